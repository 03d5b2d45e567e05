-- Printed by wip/px/px.py of this claim's repository (the kit's printer, extended there). Lean checks it.
import Derived.Test.YtbappbbljncdeaaFKinds
import Derived.Test.YtbappbbljncdeaaFlawsNet
import Derived.Test.YtbappbbljncdeaaFlawsNet
import Derived.Test.YtbappbbljncdeaaFlawsInt
import Derived.Test.YtbappbbljncdeaaFlawsNet
import Derived.Test.YtbappbbljncdeaaFlawsInt
import Derived.Test.YtbappbbljncdeaaFlawsszIntSS
import Derived.Test.YtbappbbljncdeaaFspecSeenCost
import Derived.Test.YtbappbbljncdeaaFlawstoIntSS
import Derived.Test.YtbappbbljncdeaaFimplSeenCost
import Derived.Test.YtbappbbljncdeaaFlawseqIntSS
namespace Go.Proofs.Ytbappbbljncdeaa.F
open Go.RowKit Go.Proofs.YtbappbbljncdeaaW.PrintWords Go.Proofs.YtbappbbljncdeaaW.PrintLast Go.Proofs.YtbappbbljncdeaaW.PrintMore
attribute [local go_sem] max2_int min2_int max_two min_two max_three min_three max_four min_four   -- for this text's walks alone
set_option linter.unusedVariables false
set_option linter.unusedSimpArgs false

/-! ### laws_FnExactSeenCost: function 9 -/
def laws_FnExactSeenCost.f (k : Nat) (a0_0 : Int) (l0_1 : List (S132)) (l1 : List (List Int)) (l2 : List Int) : Option (Bool) := if (l2.length : Int) > 1048576 then (some true) else ((laws_szNet.f a0_0 l0_1 1048576).bind fun t937 => (if t937 < 0 then (some true) else ((laws_szIntSS.f k l1 t937).bind fun t938 => (if t938 < 0 then (some true) else ((laws_toNet.f k a0_0 l0_1).bind fun bt939 => ((laws_toIntSS.f k l1).bind fun t943 => ((laws_toIntS.f k l2).bind fun t946 => ((spec_SeenCost.f k bt939.1 bt939.2 t943 t946).bind fun t949 => ((laws_toNet.f k a0_0 l0_1).bind fun bt950 => ((laws_toIntSS.f k l1).bind fun t955 => ((laws_toIntS.f k l2).bind fun t958 => ((impl_SeenCost.f k bt950.1 bt950.2 t955 t958).bind fun t961 => (if t961 = t949 then ((laws_toNet.f k a0_0 l0_1).bind fun bt962 => ((laws_eqNet.f k bt950.1 bt950.2 bt962.1 bt962.2).bind fun t966 => (if t966 = true then ((laws_toIntSS.f k l1).bind fun t967 => ((laws_eqIntSS.f k t955 t967).bind fun t970 => (if t970 = true then ((laws_toIntS.f k l2).bind fun t971 => ((laws_eqIntS.f k t958 t971).bind fun t974 => (if t974 = true then (some true) else (some false)))) else (some false)))) else (some false)))) else (some false))))))))))))))
theorem laws_FnExactSeenCost.mono : ∀ a0 a1 a2 a3 k, LeO (laws_FnExactSeenCost.f k a0 a1 a2 a3) (laws_FnExactSeenCost.f (k + 1) a0 a1 a2 a3) := by
 intro a0 a1 a2 a3 k
 unfold laws_FnExactSeenCost.f
 repeat' first | (with_reducible exact impl_SeenCost.mono _ _ _ _ _) | (with_reducible exact laws_eqIntS.mono _ _ _) | (with_reducible exact laws_eqIntSS.mono _ _ _) | (with_reducible exact laws_eqNet.mono _ _ _ _ _) | (with_reducible exact laws_szIntSS.mono _ _ _) | (with_reducible exact laws_toIntS.mono _ _) | (with_reducible exact laws_toIntSS.mono _ _) | (with_reducible exact laws_toNet.mono _ _ _) | (with_reducible exact spec_SeenCost.mono _ _ _ _ _) | (with_reducible exact LeO.refl _) | (with_reducible refine LeO.ite ?_ ?_) | (with_reducible refine LeO.bind ?_ (fun _ => ?_))
set_option maxHeartbeats 8000000 in
set_option maxRecDepth 100000 in
theorem laws_FnExactSeenCost.calls (k : Nat) (a0_0 : Int) (A0_1 : Option Addr) (c0_1 : Nat) (l0_1 : List (S132)) (A1 : Option Addr) (c1 : Nat) (l1 : List (List Int)) (A2 : Option Addr) (c2 : Nat) (l2 : List Int) (r : Bool) (w : World) (hr0_1 : Kd.C k132 w A0_1 l0_1.length l0_1) (hc0_1 : l0_1.length ≤ c0_1) (hr1 : Kd.C (Kd.slice 3 (Kd.int .i64)) w A1 l1.length l1) (hc1 : l1.length ≤ c1) (hr2 : Kd.C (Kd.int .i64) w A2 l2.length l2) (hc2 : l2.length ≤ c2) (h : laws_FnExactSeenCost.f k a0_0 l0_1 l1 l2 = some r) (hr_ : r = true) :
  Calls Try.prog 9 #[.agg #[.int .i64 a0_0, .slice A0_1 l0_1.length c0_1], .slice A1 l1.length c1, .slice A2 l2.length c2] w fun e w' => e = .returned (.bool r) ∧ Below w.heap.size w w' := by
 have hu24 := Try.underlying24
 have hu30 := Try.underlying30
 have HR0_1 := ak hr0_1
 have HC0_1 := ak hc0_1
 clear hr0_1 hc0_1
 have HR1 := ak hr1
 have HC1 := ak hc1
 clear hr1 hc1
 have HR2 := ak hr2
 have HC2 := ak hc2
 clear hr2 hc2
 have HB := ak (Below.refl w.heap.size w)
 have H : (if (l2.length : Int) > 1048576 then (some true) else ((laws_szNet.f a0_0 l0_1 1048576).bind fun t937 => (if t937 < 0 then (some true) else ((laws_szIntSS.f k l1 t937).bind fun t938 => (if t938 < 0 then (some true) else ((laws_toNet.f k a0_0 l0_1).bind fun bt939 => ((laws_toIntSS.f k l1).bind fun t943 => ((laws_toIntS.f k l2).bind fun t946 => ((spec_SeenCost.f k bt939.1 bt939.2 t943 t946).bind fun t949 => ((laws_toNet.f k a0_0 l0_1).bind fun bt950 => ((laws_toIntSS.f k l1).bind fun t955 => ((laws_toIntS.f k l2).bind fun t958 => ((impl_SeenCost.f k bt950.1 bt950.2 t955 t958).bind fun t961 => (if t961 = t949 then ((laws_toNet.f k a0_0 l0_1).bind fun bt962 => ((laws_eqNet.f k bt950.1 bt950.2 bt962.1 bt962.2).bind fun t966 => (if t966 = true then ((laws_toIntSS.f k l1).bind fun t967 => ((laws_eqIntSS.f k t955 t967).bind fun t970 => (if t970 = true then ((laws_toIntS.f k l2).bind fun t971 => ((laws_eqIntS.f k t958 t971).bind fun t974 => (if t974 = true then (some true) else (some false)))) else (some false)))) else (some false)))) else (some false))))))))))))))) = some r := h
 clear h
 by_cases c4 : (l2.length : Int) > 1048576
 ·rw [if_pos c4] at H
  have c4b0 : decide (1048576 < (l2.length : Int)) = true := decide_eq_true c4
  have c4b1 : decide (1048576 < l2.length) = true := decide_eq_true (by omega)
  clear c4
  obtain rfl := Option.some.inj H
  go_enter Try.func9, Try.ntmps9
  go_wp2_with (((with_reducible refine gate_dst (N := 3) rfl ?_); refine box_event ?hg (N := 3) ?hd (cs := #[.int .i64 a0_0, .slice A0_1 l0_1.length c0_1]) (t := 24) ?hr ?_; (case hd => rfl); (case hg => rfl); (case hr => (go_simp; done)); intro gb936 hg w5 hbox hb; have BK936 := ak (hbox); have GW936 := ak ((by rw [hg]; exact (below_size (bl HB)) : w.heap.size ≤ gb936)); have GE936 := ak ((by rw [hg]; exact (below_size (bl HB)) : w.heap.size ≤ gb936)); replace HB := ak (below_step (bl HB) hb); clear hb hbox hg))
  go_ret
  exact ⟨by rfl, bl1 HB GE936⟩
 rw [if_neg c4] at H
 have c4b0 : decide (1048576 < (l2.length : Int)) = false := decide_eq_false c4
 have c4b1 : decide (1048576 < l2.length) = false := decide_eq_false (by omega)
 clear c4
 replace H := Option.bind_eq_some_iff.mp H
 obtain ⟨t937, A60, H⟩ := H
 have A6 := ak A60
 clear A60
 by_cases c7 : t937 < 0
 ·rw [if_pos c7] at H
  have c7b0 : decide (t937 < 0) = true := decide_eq_true c7
  clear c7
  obtain rfl := Option.some.inj H
  go_enter Try.func9, Try.ntmps9
  go_wp2_with (first | ((with_reducible refine gate_dst (N := 3) rfl ?_); refine box_event ?hg (N := 3) ?hd (cs := #[.int .i64 a0_0, .slice A0_1 l0_1.length c0_1]) (t := 24) ?hr ?_; (case hd => rfl); (case hg => rfl); (case hr => (go_simp; done)); intro gb936 hg w8 hbox hb; have BK936 := ak (hbox); have GW936 := ak ((by rw [hg]; exact (below_size (bl HB)) : w.heap.size ≤ gb936)); have GE936 := ak ((by rw [hg]; exact (below_size (bl HB)) : w.heap.size ≤ gb936)); replace HB := ak (below_step (bl HB) hb); clear hb hbox hg; have hcz9_0 := bc w8 BK936 0 (.int .i64 a0_0) rfl; have hcz9_1 := bc w8 BK936 1 (.slice A0_1 l0_1.length c0_1) rfl; have hfz9_0 := fz BK936 0; have hfz9_1 := fz BK936 1) | ((with_reducible refine gate_callee (f := 15) rfl ?_); refine goesL_ (some 18) rfl rfl Try.func15 (by kernel_rfl) rfl #[.agg #[.int .i64 a0_0, .slice A0_1 l0_1.length c0_1], .int .i64 1048576] rfl (by (try simp only [List.map_toArray, List.map_cons, List.map_nil]); rfl) ?_; (with_reducible refine (laws_szNet.calls a0_0 _ _ l0_1 1048576 t937 _ ?side1 ?side2 A6.out).mono ?_); (case side1 => repeat (exact (Kd.C_below HR0_1.out HB.out))); (case side2 => exact HC0_1.out); rintro e w10 ⟨rfl, hb⟩; refine ⟨_, rfl, ?_⟩; replace BK936 := ak (blk_below (bk BK936) hb); replace HB := ak (below_step (bl1 HB GE936) hb); (try clear hb); (try clear hb2); (try clear hk); (try clear hi)))
  go_ret
  exact ⟨by rfl, bl1 HB GE936⟩
 rw [if_neg c7] at H
 have c7b0 : decide (t937 < 0) = false := decide_eq_false c7
 clear c7
 replace H := Option.bind_eq_some_iff.mp H
 obtain ⟨t938, A110, H⟩ := H
 have A11 := ak A110
 clear A110
 by_cases c12 : t938 < 0
 ·rw [if_pos c12] at H
  have c12b0 : decide (t938 < 0) = true := decide_eq_true c12
  clear c12
  obtain rfl := Option.some.inj H
  go_enter Try.func9, Try.ntmps9
  go_wp2_with (first | ((with_reducible refine gate_dst (N := 3) rfl ?_); refine box_event ?hg (N := 3) ?hd (cs := #[.int .i64 a0_0, .slice A0_1 l0_1.length c0_1]) (t := 24) ?hr ?_; (case hd => rfl); (case hg => rfl); (case hr => (go_simp; done)); intro gb936 hg w13 hbox hb; have BK936 := ak (hbox); have GW936 := ak ((by rw [hg]; exact (below_size (bl HB)) : w.heap.size ≤ gb936)); have GE936 := ak ((by rw [hg]; exact (below_size (bl HB)) : w.heap.size ≤ gb936)); replace HB := ak (below_step (bl HB) hb); clear hb hbox hg; have hcz14_0 := bc w13 BK936 0 (.int .i64 a0_0) rfl; have hcz14_1 := bc w13 BK936 1 (.slice A0_1 l0_1.length c0_1) rfl; have hfz14_0 := fz BK936 0; have hfz14_1 := fz BK936 1) | ((with_reducible refine gate_callee (f := 15) rfl ?_); refine goesL_ (some 18) rfl rfl Try.func15 (by kernel_rfl) rfl #[.agg #[.int .i64 a0_0, .slice A0_1 l0_1.length c0_1], .int .i64 1048576] rfl (by (try simp only [List.map_toArray, List.map_cons, List.map_nil]); rfl) ?_; (with_reducible refine (laws_szNet.calls a0_0 _ _ l0_1 1048576 t937 _ ?side1 ?side2 A6.out).mono ?_); (case side1 => repeat (exact (Kd.C_below HR0_1.out HB.out))); (case side2 => exact HC0_1.out); rintro e w15 ⟨rfl, hb⟩; refine ⟨_, rfl, ?_⟩; replace BK936 := ak (blk_below (bk BK936) hb); replace HB := ak (below_step (bl1 HB GE936) hb); (try clear hb); (try clear hb2); (try clear hk); (try clear hi)) | ((with_reducible refine gate_callee (f := 38) rfl ?_); refine goesL_ (some 23) rfl rfl Try.func38 (by kernel_rfl) rfl #[.slice A1 l1.length c1, .int .i64 t937] rfl (by (try simp only [List.map_toArray, List.map_cons, List.map_nil]); rfl) ?_; (with_reducible refine (laws_szIntSS.calls k _ _ l1 t937 t938 _ ?side1 ?side2 A11.out).mono ?_); (case side1 => repeat (exact (Kd.C_below HR1.out HB.out))); (case side2 => exact HC1.out); rintro e w' ⟨rfl, ⟨nd, rfl⟩⟩; refine ⟨_, rfl, ?_⟩))
  go_ret
  exact ⟨by rfl, bl1 HB GE936⟩
 rw [if_neg c12] at H
 have c12b0 : decide (t938 < 0) = false := decide_eq_false c12
 clear c12
 replace H := Option.bind_eq_some_iff.mp H
 obtain ⟨⟨t939, t940⟩, A160, H⟩ := H
 have A16 := ak A160
 clear A160
 replace H := Option.bind_eq_some_iff.mp H
 obtain ⟨t943, A170, H⟩ := H
 have A17 := ak A170
 clear A170
 replace H := Option.bind_eq_some_iff.mp H
 obtain ⟨t946, A180, H⟩ := H
 have A18 := ak A180
 clear A180
 replace H := Option.bind_eq_some_iff.mp H
 obtain ⟨t949, A190, H⟩ := H
 have A19 := ak A190
 clear A190
 replace H := Option.bind_eq_some_iff.mp H
 obtain ⟨⟨t950, t951⟩, A200, H⟩ := H
 have A20 := ak A200
 clear A200
 replace H := Option.bind_eq_some_iff.mp H
 obtain ⟨t955, A210, H⟩ := H
 have A21 := ak A210
 clear A210
 replace H := Option.bind_eq_some_iff.mp H
 obtain ⟨t958, A220, H⟩ := H
 have A22 := ak A220
 clear A220
 replace H := Option.bind_eq_some_iff.mp H
 obtain ⟨t961, A230, H⟩ := H
 have A23 := ak A230
 clear A230
 by_cases c24 : t961 = t949
 rotate_left
 ·rw [if_neg c24] at H
  have c24b0 : (t961 == t949) = false := beq_eq_false_iff_ne.mpr c24
  have c24b1 : (t961 != t949) = true := bne_iff_ne.mpr c24
  exact absurd ((Option.some.inj H).trans hr_) Bool.false_ne_true
 rw [if_pos c24] at H
 have c24b0 : (t961 == t949) = true := beq_iff_eq.mpr c24
 have c24b1 : (t961 != t949) = false := bne_eq_false_iff_eq.mpr c24
 clear c24
 replace H := Option.bind_eq_some_iff.mp H
 obtain ⟨⟨t962, t963⟩, A250, H⟩ := H
 have A25 := ak A250
 clear A250
 replace H := Option.bind_eq_some_iff.mp H
 obtain ⟨t966, A260, H⟩ := H
 have A26 := ak A260
 clear A260
 by_cases c27 : t966 = true
 rotate_left
 ·replace c27 := Bool.eq_false_iff.mpr c27
  subst c27
  rw [if_neg (show ¬ (false = true) by decide)] at H
  exact absurd ((Option.some.inj H).trans hr_) Bool.false_ne_true
 subst c27
 rw [if_pos rfl] at H
 replace H := Option.bind_eq_some_iff.mp H
 obtain ⟨t967, A280, H⟩ := H
 have A28 := ak A280
 clear A280
 replace H := Option.bind_eq_some_iff.mp H
 obtain ⟨t970, A290, H⟩ := H
 have A29 := ak A290
 clear A290
 by_cases c30 : t970 = true
 rotate_left
 ·replace c30 := Bool.eq_false_iff.mpr c30
  subst c30
  rw [if_neg (show ¬ (false = true) by decide)] at H
  exact absurd ((Option.some.inj H).trans hr_) Bool.false_ne_true
 subst c30
 rw [if_pos rfl] at H
 replace H := Option.bind_eq_some_iff.mp H
 obtain ⟨t971, A310, H⟩ := H
 have A31 := ak A310
 clear A310
 replace H := Option.bind_eq_some_iff.mp H
 obtain ⟨t974, A320, H⟩ := H
 have A32 := ak A320
 clear A320
 by_cases c33 : t974 = true
 rotate_left
 ·replace c33 := Bool.eq_false_iff.mpr c33
  subst c33
  rw [if_neg (show ¬ (false = true) by decide)] at H
  exact absurd ((Option.some.inj H).trans hr_) Bool.false_ne_true
 subst c33
 rw [if_pos rfl] at H
 obtain rfl := Option.some.inj H
 go_enter Try.func9, Try.ntmps9
 try go_wp2_with (first | ((with_reducible refine gate_dst (N := 3) rfl ?_); refine box_event ?hg (N := 3) ?hd (cs := #[.int .i64 a0_0, .slice A0_1 l0_1.length c0_1]) (t := 24) ?hr ?_; (case hd => rfl); (case hg => rfl); (case hr => (go_simp; done)); intro gb936 hg w34 hbox hb; have BK936 := ak (hbox); have GW936 := ak ((by rw [hg]; exact (below_size (bl HB)) : w.heap.size ≤ gb936)); have GE936 := ak ((by rw [hg]; exact (below_size (bl HB)) : w.heap.size ≤ gb936)); replace HB := ak (below_step (bl HB) hb); clear hb hbox hg; have hcz35_0 := bc w34 BK936 0 (.int .i64 a0_0) rfl; have hcz35_1 := bc w34 BK936 1 (.slice A0_1 l0_1.length c0_1) rfl; have hfz35_0 := fz BK936 0; have hfz35_1 := fz BK936 1) | ((with_reducible refine gate_callee (f := 15) rfl ?_); refine goesL_ (some 18) rfl rfl Try.func15 (by kernel_rfl) rfl #[.agg #[.int .i64 a0_0, .slice A0_1 l0_1.length c0_1], .int .i64 1048576] rfl (by (try simp only [List.map_toArray, List.map_cons, List.map_nil]); rfl) ?_; (with_reducible refine (laws_szNet.calls a0_0 _ _ l0_1 1048576 t937 _ ?side1 ?side2 A6.out).mono ?_); (case side1 => repeat (exact (Kd.C_below HR0_1.out HB.out))); (case side2 => exact HC0_1.out); rintro e w36 ⟨rfl, hb⟩; refine ⟨_, rfl, ?_⟩; replace BK936 := ak (blk_below (bk BK936) hb); replace HB := ak (below_step (bl1 HB GE936) hb); (try clear hb); (try clear hb2); (try clear hk); (try clear hi)) | ((with_reducible refine gate_callee (f := 38) rfl ?_); refine goesL_ (some 23) rfl rfl Try.func38 (by kernel_rfl) rfl #[.slice A1 l1.length c1, .int .i64 t937] rfl (by (try simp only [List.map_toArray, List.map_cons, List.map_nil]); rfl) ?_; (with_reducible refine (laws_szIntSS.calls k _ _ l1 t937 t938 _ ?side1 ?side2 A11.out).mono ?_); (case side1 => repeat (exact (Kd.C_below HR1.out HB.out))); (case side2 => exact HC1.out); rintro e w' ⟨rfl, ⟨nd, rfl⟩⟩; refine ⟨_, rfl, ?_⟩; (try (rw [drewN_self w36]; generalize hq_ : World.drewN w36 _ = w36; have n0_ := ak (blk_at hq_ BK936.out); have n1_ := ak (below_at hq_ HB.out); clear hq_ BK936 HB; have BK936 := n0_; have HB := n1_; clear n0_ n1_)); have hcz37_0 := bc w36 BK936 0 (.int .i64 a0_0) rfl; have hcz37_1 := bc w36 BK936 1 (.slice A0_1 l0_1.length c0_1) rfl; have hfz37_0 := fz BK936 0; have hfz37_1 := fz BK936 1) | ((with_reducible refine gate_callee (f := 17) rfl ?_); refine goesL_ (some 27) rfl rfl Try.func17 (by kernel_rfl) rfl #[.agg #[.int .i64 a0_0, .slice A0_1 l0_1.length c0_1]] rfl (by (try simp only [List.map_toArray, List.map_cons, List.map_nil]); rfl) ?_; (with_reducible refine (laws_toNet.calls k a0_0 _ _ l0_1 t939 t940 _ ?side1 ?side2 A16.out).mono ?_); (case side1 => repeat (exact (Kd.C_below HR0_1.out HB.out))); (case side2 => exact HC0_1.out); rintro e w38 ⟨v941, rfl, ho0, hb⟩; refine ⟨_, rfl, ?_⟩; have HO942 := ak (Kd.R_lower ho0 (below_size (bl1 HB GE936))); replace BK936 := ak (blk_below (bk BK936) hb); replace HB := ak (below_step (bl1 HB GE936) hb); (try clear hb); (try clear hb2); (try clear hk); (try clear hi); (try clear ho0)) | ((with_reducible refine gate_callee (f := 40) rfl ?_); refine goesL_ (some 29) rfl rfl Try.func40 (by kernel_rfl) rfl #[.slice A1 l1.length c1] rfl (by (try simp only [List.map_toArray, List.map_cons, List.map_nil]); rfl) ?_; (with_reducible refine (laws_toIntSS.calls k _ _ l1 t943 _ ?side1 ?side2 A17.out).mono ?_); (case side1 => repeat (exact (Kd.C_below HR1.out HB.out))); (case side2 => exact HC1.out); rintro e w39 ⟨v944, rfl, ho0, hb⟩; refine ⟨_, rfl, ?_⟩; replace HO942 := ak (Kd.R_below (rk HO942) hb); have HO945 := ak (Kd.S_lower ho0 (below_size (bl1 HB GE936))); replace BK936 := ak (blk_below (bk BK936) hb); replace HB := ak (below_step (bl1 HB GE936) hb); (try clear hb); (try clear hb2); (try clear hk); (try clear hi); (try clear ho0)) | ((with_reducible refine gate_callee (f := 25) rfl ?_); refine goesL_ (some 31) rfl rfl Try.func25 (by kernel_rfl) rfl #[.slice A2 l2.length c2] rfl (by (try simp only [List.map_toArray, List.map_cons, List.map_nil]); rfl) ?_; (with_reducible refine (laws_toIntS.calls k _ _ l2 t946 _ ?side1 ?side2 A18.out).mono ?_); (case side1 => repeat (exact (Kd.C_below HR2.out HB.out))); (case side2 => exact HC2.out); rintro e w40 ⟨v947, rfl, ho0, hb⟩; refine ⟨_, rfl, ?_⟩; replace HO942 := ak (Kd.R_below (rk HO942) hb); replace HO945 := ak (Kd.S_elder' (by exact HO945.out) (Kd.R_base ho0) hb); have HO948 := ak (Kd.R_lower ho0 (below_size (bl1 HB GE936))); replace BK936 := ak (blk_below (bk BK936) hb); replace HB := ak (below_step (bl1 HB GE936) hb); (try clear hb); (try clear hb2); (try clear hk); (try clear hi); (try clear ho0); obtain ⟨Ao41, co41, eo41⟩ := Kd.R_slice HO942.out; subst eo41; obtain ⟨Ao42, co42, eo42⟩ := Kd.S_slice HO945.out; subst eo42; obtain ⟨Ao43, co43, eo43⟩ := Kd.R_slice HO948.out; subst eo43) | ((with_reducible refine gate_callee (f := 39) rfl ?_); refine goesL_ (some 32) rfl rfl Try.func39 (by kernel_rfl) rfl #[.agg #[.int .i64 t939, .slice Ao41 t940.length co41], .slice Ao42 t943.length co42, .slice Ao43 t946.length co43] rfl (by (try simp only [List.map_toArray, List.map_cons, List.map_nil]); rfl) ?_; (with_reducible refine (spec_SeenCost.calls k t939 _ _ t940 _ _ t943 _ _ t946 t949 _ ?side1 ?side2 ?side3 ?side4 ?side5 ?side6 A19.out).mono ?_); (case side1 => repeat (exact (Kd.R_reads' HO942.out).2.2)); (case side2 => exact (Kd.R_reads' HO942.out).2.1); (case side3 => repeat (exact (Kd.S_reads' HO945.out).2.2)); (case side4 => exact (Kd.S_reads' HO945.out).2.1); (case side5 => repeat (exact (Kd.R_reads' HO948.out).2.2)); (case side6 => exact (Kd.R_reads' HO948.out).2.1); rintro e w44 ⟨rfl, hb⟩; refine ⟨_, rfl, ?_⟩; replace HO942 := ak (Kd.R_below (rk HO942) hb); replace HO945 := ak (Kd.S_below (by exact HO945.out) hb); replace HO948 := ak (Kd.R_below (rk HO948) hb); replace BK936 := ak (blk_below (bk BK936) hb); replace HB := ak (below_step (bl1 HB GE936) hb); (try clear hb); (try clear hb2); (try clear hk); (try clear hi); have hcz45_0 := bc w44 BK936 0 (.int .i64 a0_0) rfl; have hcz45_1 := bc w44 BK936 1 (.slice A0_1 l0_1.length c0_1) rfl; have hfz45_0 := fz BK936 0; have hfz45_1 := fz BK936 1) | ((with_reducible refine gate_callee (f := 17) rfl ?_); refine goesL_ (some 34) rfl rfl Try.func17 (by kernel_rfl) rfl #[.agg #[.int .i64 a0_0, .slice A0_1 l0_1.length c0_1]] rfl (by (try simp only [List.map_toArray, List.map_cons, List.map_nil]); rfl) ?_; (with_reducible refine (laws_toNet.calls k a0_0 _ _ l0_1 t950 t951 _ ?side1 ?side2 A20.out).mono ?_); (case side1 => repeat (exact (Kd.C_below HR0_1.out HB.out))); (case side2 => exact HC0_1.out); rintro e w46 ⟨v952, rfl, ho0, hb⟩; refine ⟨_, rfl, ?_⟩; replace HO945 := ak (Kd.S_below (by exact HO945.out) hb); replace HO948 := ak (Kd.R_below (rk HO948) hb); have HO953 := ak (Kd.R_lower (Kd.R_new' ho0 (Kd.R_lt (rk HO942))) (below_size (bl1 HB GE936))); replace HO942 := ak (Kd.R_elder' (rk HO942) (Kd.R_base ho0) hb); replace BK936 := ak (blk_below (bk BK936) hb); replace HB := ak (below_step (bl1 HB GE936) hb); (try clear hb); (try clear hb2); (try clear hk); (try clear hi); (try clear ho0)) | ((with_reducible refine gate_dst (N := 9) rfl ?_); refine box_event ?hg (N := 9) ?hd (cs := #[.int .i64 0, .slice none 0 0]) (t := 30) ?hr ?_; (case hd => rfl); (case hg => rfl); (case hr => (go_simp; done)); intro gb954 hg w47 hbox hb; replace HO942 := ak (Kd.R_below (rk HO942) hb); replace HO945 := ak (Kd.S_below (by exact HO945.out) hb); replace HO948 := ak (Kd.R_below (rk HO948) hb); replace HO953 := ak (Kd.R_below (rk HO953) hb); have BK954 := ak (hbox); have GW954 := ak ((by rw [hg]; exact (below_size (bl1 HB GE936)) : w.heap.size ≤ gb954)); have GE954 := ak ((by rw [hg]; exact (below_size (bl1 HB GE936)) : w.heap.size ≤ gb954)); replace HB := ak (below_step (bl1 HB GE936) hb); have NB936_954 := ak ((by rw [hg]; exact Nat.ne_of_lt (blk_lt (bk BK936)) : gb936 ≠ gb954)); have NB954_936 := ak ((by rw [hg]; exact Nat.ne_of_gt (blk_lt (bk BK936)) : gb954 ≠ gb936)); replace BK936 := ak (blk_below (bk BK936) hb); clear hb hbox hg; have hnb48 := NB954_936.out; have hnc48 := NB936_954.out; have hcz49_0 := bc w47 BK954 0 (.int .i64 0) rfl; have hcz49_1 := bc w47 BK954 1 (.slice none 0 0) rfl; have hfz49_0 := fz BK954 0; have hfz49_1 := fz BK954 1; obtain ⟨Ao50, co50, eo50⟩ := Kd.R_slice HO953.out; subst eo50) | ((with_reducible refine gate_callee (f := 40) rfl ?_); refine goesL_ (some 36) rfl rfl Try.func40 (by kernel_rfl) rfl #[.slice A1 l1.length c1] rfl (by (try simp only [List.map_toArray, List.map_cons, List.map_nil]); rfl) ?_; (with_reducible refine (laws_toIntSS.calls k _ _ l1 t955 _ ?side1 ?side2 A21.out).mono ?_); (case side1 => exact Kd.C_below HR1.out (bl2 HB GE936 GE954)); (case side2 => exact HC1.out); rintro e w51 ⟨v956, rfl, ho0, hb⟩; refine ⟨_, rfl, ?_⟩; replace HO942 := ak (Kd.R_below (by exact (Kd.R_mono (Kd.R_far (p := ⟨gb954, 1, none⟩) (Kd.R_far (p := ⟨gb954, 0, none⟩) (Kd.R_types HO942.out BK954.out (by decide)) (fun _ hk => hk.2) (.int .i64 t950)) (fun _ hk => hk.2) (.slice Ao50 t951.length co50)) (fun _ h_ => h_.1))) hb); replace HO953 := ak (Kd.R_below (by exact (Kd.R_mono (Kd.R_far (p := ⟨gb954, 1, none⟩) (Kd.R_far (p := ⟨gb954, 0, none⟩) (Kd.R_types HO953.out BK954.out (by decide)) (fun _ hk => hk.2) (.int .i64 t950)) (fun _ hk => hk.2) (.slice Ao50 t951.length co50)) (fun _ h_ => h_.1))) hb); have HO957 := ak (Kd.S_lower (Kd.S_new' (Kd.S_new' ho0 (Kd.S_lt (by exact (Kd.S_mono (Kd.S_far (p := ⟨gb954, 1, none⟩) (Kd.S_far (p := ⟨gb954, 0, none⟩) (Kd.S_types HO945.out BK954.out (by decide)) (fun _ hk => hk.2) (.int .i64 t950)) (fun _ hk => hk.2) (.slice Ao50 t951.length co50)) (fun _ h_ => h_.1))))) (Kd.R_lt (by exact (Kd.R_mono (Kd.R_far (p := ⟨gb954, 1, none⟩) (Kd.R_far (p := ⟨gb954, 0, none⟩) (Kd.R_types HO948.out BK954.out (by decide)) (fun _ hk => hk.2) (.int .i64 t950)) (fun _ hk => hk.2) (.slice Ao50 t951.length co50)) (fun _ h_ => h_.1))))) (below_size (bl2 HB GE936 GE954))); replace HO945 := ak (Kd.S_elder' (by exact (Kd.S_mono (Kd.S_far (p := ⟨gb954, 1, none⟩) (Kd.S_far (p := ⟨gb954, 0, none⟩) (Kd.S_types HO945.out BK954.out (by decide)) (fun _ hk => hk.2) (.int .i64 t950)) (fun _ hk => hk.2) (.slice Ao50 t951.length co50)) (fun _ h_ => h_.1))) (Kd.S_base ho0) hb); replace HO948 := ak (Kd.R_below (by exact (Kd.R_mono (Kd.R_far (p := ⟨gb954, 1, none⟩) (Kd.R_far (p := ⟨gb954, 0, none⟩) (Kd.R_types HO948.out BK954.out (by decide)) (fun _ hk => hk.2) (.int .i64 t950)) (fun _ hk => hk.2) (.slice Ao50 t951.length co50)) (fun _ h_ => h_.1))) hb); replace BK936 := ak (blk_below (g := gb936) (o := .cells #[.int .i64 a0_0, .slice A0_1 l0_1.length c0_1] 24 (0, 0)) (by refine blk_far ?_ NB936_954.out _; refine blk_far ?_ NB936_954.out _; exact BK936.out) hb); replace BK954 := ak (blk_below (g := gb954) (o := .cells #[.int .i64 t950, .slice Ao50 t951.length co50] 30 (0, 0)) (by refine blk_put (cs := #[.int .i64 t950, .slice none 0 0]) ?_ 1 _ rfl; refine blk_put (cs := #[.int .i64 0, .slice none 0 0]) ?_ 0 _ rfl; exact BK954.out) hb); replace HB := ak (below_step (bl2 HB GE936 GE954) hb); (try clear hb); (try clear hb2); (try clear hk); (try clear hi); (try clear ho0)) | ((with_reducible refine gate_callee (f := 25) rfl ?_); refine goesL_ (some 38) rfl rfl Try.func25 (by kernel_rfl) rfl #[.slice A2 l2.length c2] rfl (by (try simp only [List.map_toArray, List.map_cons, List.map_nil]); rfl) ?_; (with_reducible refine (laws_toIntS.calls k _ _ l2 t958 _ ?side1 ?side2 A22.out).mono ?_); (case side1 => repeat (exact (Kd.C_below HR2.out HB.out))); (case side2 => exact HC2.out); rintro e w52 ⟨v959, rfl, ho0, hb⟩; refine ⟨_, rfl, ?_⟩; replace HO942 := ak (Kd.R_below (rk HO942) hb); replace HO945 := ak (Kd.S_elder' (by exact HO945.out) (Kd.R_base ho0) hb); replace HO953 := ak (Kd.R_below (rk HO953) hb); replace HO957 := ak (Kd.S_elder' (by exact HO957.out) (Kd.R_base ho0) hb); have HO960 := ak (Kd.R_lower (Kd.R_new' ho0 (Kd.R_lt (rk HO948))) (below_size (bl2 HB GE936 GE954))); replace HO948 := ak (Kd.R_elder' (rk HO948) (Kd.R_base ho0) hb); replace BK936 := ak (blk_below (bk BK936) hb); replace BK954 := ak (blk_below (bk BK954) hb); replace HB := ak (below_step (bl2 HB GE936 GE954) hb); (try clear hb); (try clear hb2); (try clear hk); (try clear hi); (try clear ho0); have hcz53_0 := bc w52 BK954 0 (.int .i64 t950) rfl; have hcz53_1 := bc w52 BK954 1 (.slice Ao50 t951.length co50) rfl; have hfz53_0 := fz BK954 0; have hfz53_1 := fz BK954 1; obtain ⟨Ao54, co54, eo54⟩ := Kd.S_slice HO957.out; subst eo54; obtain ⟨Ao55, co55, eo55⟩ := Kd.R_slice HO960.out; subst eo55) | ((with_reducible refine gate_callee (f := 41) rfl ?_); refine goesL_ (some 42) rfl rfl Try.func41 (by kernel_rfl) rfl #[.agg #[.int .i64 t950, .slice Ao50 t951.length co50], .slice Ao54 t955.length co54, .slice Ao55 t958.length co55] rfl (by (try simp only [List.map_toArray, List.map_cons, List.map_nil]); rfl) ?_; (with_reducible refine (impl_SeenCost.calls k t950 _ _ t951 _ _ t955 _ _ t958 t961 _ ?side1 ?side2 ?side3 ?side4 ?side5 ?side6 A23.out).mono ?_); (case side1 => repeat (exact (Kd.R_reads' HO953.out).2.2)); (case side2 => exact (Kd.R_reads' HO953.out).2.1); (case side3 => repeat (exact (Kd.S_reads' HO957.out).2.2)); (case side4 => exact (Kd.S_reads' HO957.out).2.1); (case side5 => repeat (exact (Kd.R_reads' HO960.out).2.2)); (case side6 => exact (Kd.R_reads' HO960.out).2.1); rintro e w56 ⟨rfl, hb⟩; refine ⟨_, rfl, ?_⟩; replace HO942 := ak (Kd.R_below (rk HO942) hb); replace HO945 := ak (Kd.S_below (by exact HO945.out) hb); replace HO948 := ak (Kd.R_below (rk HO948) hb); replace HO953 := ak (Kd.R_below (rk HO953) hb); replace HO957 := ak (Kd.S_below (by exact HO957.out) hb); replace HO960 := ak (Kd.R_below (rk HO960) hb); replace BK936 := ak (blk_below (bk BK936) hb); replace BK954 := ak (blk_below (bk BK954) hb); replace HB := ak (below_step (bl2 HB GE936 GE954) hb); (try clear hb); (try clear hb2); (try clear hk); (try clear hi)))
 replace HO942 := ak (Kd.R_drew HO942.out)
 replace HO945 := ak (Kd.S_drew HO945.out)
 replace HO948 := ak (Kd.R_drew HO948.out)
 replace HO953 := ak (Kd.R_drew HO953.out)
 replace HO957 := ak (Kd.S_drew HO957.out)
 replace HO960 := ak (Kd.R_drew HO960.out)
 replace BK936 := ak (blk_drew BK936.out)
 replace BK954 := ak (blk_drew BK954.out)
 replace HB := ak (below_drew1 HB.out)
 refine start_ (n := 5) (S := fun w' => w'.cell? ⟨gb954, 0, none⟩ = some (.int .i64 t950) ∧ w'.cell? ⟨gb954, 1, none⟩ = some (.slice Ao50 t951.length co50) ∧ w'.cell? ⟨gb936, 0, none⟩ = some (.int .i64 a0_0) ∧ w'.cell? ⟨gb936, 1, none⟩ = some (.slice A0_1 l0_1.length c0_1)) (ds := []) #[false, false, false, false, false] (by kernel_rfl) rfl (by kernel_rfl) ⟨(blk_cell BK954.out 0).trans rfl, (blk_cell BK954.out 1).trans rfl, (blk_cell BK936.out 0).trans rfl, (blk_cell BK936.out 1).trans rfl⟩ (fun hHeld => ?_)
 generalize w56.drew = w57 at HO942 HO945 HO948 HO953 HO957 HO960 BK936 BK954 HB hHeld ⊢
 refine take_ (i := 0) (N := some 46) (v := ?_) (a' := ?_) #[true, false, false, false, false] rfl rfl (by kernel_rfl) (fun _ _ _ h => h) (Or.inl ⟨by rfl, ?_⟩) hHeld ?_ ?_
 rotate_left
 ·rintro w' ⟨s0, s1, s2, s3⟩
  go_simp
  with_reducible rfl
 rotate_left
 ·simp only [SX]
  rfl
 refine take_ (i := 1) (N := some 47) (v := ?_) (a' := ?_) #[true, true, false, false, false] rfl rfl (by kernel_rfl) (fun _ _ _ h => h) (Or.inl ⟨by rfl, ?_⟩) hHeld ?_ ?_
 rotate_left
 ·rintro w' ⟨s0, s1, s2, s3⟩
  go_simp
  with_reducible rfl
 rotate_left
 ·simp only [SX]
  rfl
 refine one_ (i := 2) (N := some 48) #[true, true, true, false, false] rfl rfl (by kernel_rfl) (by decide) (fun K hK => ?_)
 refine goes_ Try.func17 (by kernel_rfl) rfl #[.agg #[.int .i64 a0_0, .slice A0_1 l0_1.length c0_1]] (by rfl) rfl rfl (by (try simp only [List.map_toArray, List.map_cons, List.map_nil]); rfl) ?_
 with_reducible refine (laws_toNet.calls k a0_0 _ _ l0_1 t962 t963 _ ?side1 ?side2 A25.out).mono ?_
 (case side1 => repeat (exact (Kd.C_below HR0_1.out HB.out)))
 (case side2 => exact HC0_1.out)
 rintro e w58 ⟨v964, rfl, ho0, hb⟩
 refine ⟨_, rfl, ?_⟩
 replace HO945 := ak (Kd.S_below (by exact HO945.out) hb)
 replace HO948 := ak (Kd.R_below (rk HO948) hb)
 replace HO957 := ak (Kd.S_below (by exact HO957.out) hb)
 replace HO960 := ak (Kd.R_below (rk HO960) hb)
 have HO965 := ak (Kd.R_lower (Kd.R_new' (Kd.R_new' ho0 (Kd.R_lt (rk HO942))) (Kd.R_lt (rk HO953))) (below_size (bl2 HB GE936 GE954)))
 replace HO942 := ak (Kd.R_elder' (rk HO942) (Kd.R_base ho0) hb)
 replace HO953 := ak (Kd.R_elder' (rk HO953) (Kd.R_base ho0) hb)
 replace BK936 := ak (blk_below (bk BK936) hb)
 replace BK954 := ak (blk_below (bk BK954) hb)
 replace HB := ak (below_step (bl2 HB GE936 GE954) hb)
 (try clear hb)
 (try clear hb2)
 (try clear hk)
 (try clear hi)
 (try clear ho0)
 obtain ⟨Ao59, co59, eo59⟩ := Kd.R_slice HO965.out
 (subst eo59)
 refine hK.out _ _ ⟨(blk_cell BK954.out 0).trans rfl, (blk_cell BK954.out 1).trans rfl, (blk_cell BK936.out 0).trans rfl, (blk_cell BK936.out 1).trans rfl⟩ (fun hHeld => ?_)
 clear hK K
 refine norm_ (a' := ?_) ?_ ?_
 rotate_left
 ·show Act.put _ (some 48) _ = _
  simp only [SX]
  rfl
 refine one_ (i := 3) (N := some 49) #[true, true, true, true, false] rfl rfl (by kernel_rfl) (by decide) (fun K hK => ?_)
 refine goes_ Try.func20 (by kernel_rfl) rfl #[.agg #[.int .i64 t950, .slice Ao50 t951.length co50], .agg #[.int .i64 t962, .slice Ao59 t963.length co59]] (by rfl) rfl rfl (by (try simp only [List.map_toArray, List.map_cons, List.map_nil]); rfl) ?_
 with_reducible refine (laws_eqNet.calls k t950 _ _ t951 t962 _ _ t963 true _ ?side1 ?side2 ?side3 ?side4 A26.out).mono ?_
 (case side1 => repeat (exact (Kd.R_reads' HO953.out).2.2))
 (case side2 => exact (Kd.R_reads' HO953.out).2.1)
 (case side3 => repeat (exact (Kd.R_reads' HO965.out).2.2))
 (case side4 => exact (Kd.R_reads' HO965.out).2.1)
 rintro e w60 ⟨rfl, hb⟩
 refine ⟨_, rfl, ?_⟩
 replace HO942 := ak (Kd.R_below (rk HO942) hb)
 replace HO945 := ak (Kd.S_below (by exact HO945.out) hb)
 replace HO948 := ak (Kd.R_below (rk HO948) hb)
 replace HO953 := ak (Kd.R_below (rk HO953) hb)
 replace HO957 := ak (Kd.S_below (by exact HO957.out) hb)
 replace HO960 := ak (Kd.R_below (rk HO960) hb)
 replace HO965 := ak (Kd.R_below (rk HO965) hb)
 replace BK936 := ak (blk_below (bk BK936) hb)
 replace BK954 := ak (blk_below (bk BK954) hb)
 replace HB := ak (below_step (bl2 HB GE936 GE954) hb)
 (try clear hb)
 (try clear hb2)
 (try clear hk)
 (try clear hi)
 refine hK.out _ _ ⟨(blk_cell BK954.out 0).trans rfl, (blk_cell BK954.out 1).trans rfl, (blk_cell BK936.out 0).trans rfl, (blk_cell BK936.out 1).trans rfl⟩ (fun hHeld => ?_)
 clear hK K
 refine norm_ (a' := ?_) ?_ ?_
 rotate_left
 ·show Act.put _ (some 49) _ = _
  simp only [SX]
  rfl
 refine pure_ (i := 4) (N := some 50) (v := ?_) (a' := ?_) #[true, true, true, true, true] rfl rfl (by kernel_rfl) (fun _ _ _ h => h) (Or.inl ⟨by rfl, ?_⟩) ?_ ?_
 rotate_left
 ·intro w'
  go_simp
  with_reducible rfl
 rotate_left
 ·simp only [SX]
  rfl
 refine done_ (by kernel_rfl) ?_
 try go_wp2_with (first | ((with_reducible refine gate_callee (f := 40) rfl ?_); refine goesL_ (some 53) rfl rfl Try.func40 (by kernel_rfl) rfl #[.slice A1 l1.length c1] rfl (by (try simp only [List.map_toArray, List.map_cons, List.map_nil]); rfl) ?_; (with_reducible refine (laws_toIntSS.calls k _ _ l1 t967 _ ?side1 ?side2 A28.out).mono ?_); (case side1 => repeat (exact (Kd.C_below HR1.out HB.out))); (case side2 => exact HC1.out); rintro e w61 ⟨v968, rfl, ho0, hb⟩; refine ⟨_, rfl, ?_⟩; replace HO942 := ak (Kd.R_below (rk HO942) hb); replace HO953 := ak (Kd.R_below (rk HO953) hb); replace HO965 := ak (Kd.R_below (rk HO965) hb); have HO969 := ak (Kd.S_lower (Kd.S_new' (Kd.S_new' (Kd.S_new' (Kd.S_new' ho0 (Kd.S_lt (by exact HO945.out))) (Kd.R_lt (rk HO948))) (Kd.S_lt (by exact HO957.out))) (Kd.R_lt (rk HO960))) (below_size (bl2 HB GE936 GE954))); replace HO945 := ak (Kd.S_elder' (by exact HO945.out) (Kd.S_base ho0) hb); replace HO948 := ak (Kd.R_below (rk HO948) hb); replace HO957 := ak (Kd.S_elder' (by exact HO957.out) (Kd.S_base ho0) hb); replace HO960 := ak (Kd.R_below (rk HO960) hb); replace BK936 := ak (blk_below (bk BK936) hb); replace BK954 := ak (blk_below (bk BK954) hb); replace HB := ak (below_step (bl2 HB GE936 GE954) hb); (try clear hb); (try clear hb2); (try clear hk); (try clear hi); (try clear ho0); obtain ⟨Ao62, co62, eo62⟩ := Kd.S_slice HO969.out; subst eo62) | ((with_reducible refine gate_callee (f := 42) rfl ?_); refine goesL_ (some 54) rfl rfl Try.func42 (by kernel_rfl) rfl #[.slice Ao54 t955.length co54, .slice Ao62 t967.length co62] rfl (by (try simp only [List.map_toArray, List.map_cons, List.map_nil]); rfl) ?_; (with_reducible refine (laws_eqIntSS.calls k _ _ t955 _ _ t967 true _ ?side1 ?side2 ?side3 ?side4 A29.out).mono ?_); (case side1 => repeat (exact (Kd.S_reads' HO957.out).2.2)); (case side2 => exact (Kd.S_reads' HO957.out).2.1); (case side3 => repeat (exact (Kd.S_reads' HO969.out).2.2)); (case side4 => exact (Kd.S_reads' HO969.out).2.1); rintro e w' ⟨rfl, ⟨nd, rfl⟩⟩; refine ⟨_, rfl, ?_⟩) | ((with_reducible refine gate_callee (f := 25) rfl ?_); refine goesL_ (some 58) rfl rfl Try.func25 (by kernel_rfl) rfl #[.slice A2 l2.length c2] rfl (by (try simp only [List.map_toArray, List.map_cons, List.map_nil]); rfl) ?_; (with_reducible refine (laws_toIntS.calls k _ _ l2 t971 _ ?side1 ?side2 A31.out).mono ?_); (case side1 => repeat (exact (Kd.C_below HR2.out (bl2 HB GE936 GE954)))); (case side2 => exact HC2.out); rintro e w63 ⟨v972, rfl, ho0, hb⟩; refine ⟨_, rfl, ?_⟩; replace HO942 := ak (Kd.R_below (rk HO942) hb); replace HO945 := ak (Kd.S_elder' (by (with_reducible repeat (apply Kd.S_drewN)); exact HO945.out) (Kd.R_base ho0) hb); replace HO953 := ak (Kd.R_below (rk HO953) hb); replace HO957 := ak (Kd.S_elder' (by (with_reducible repeat (apply Kd.S_drewN)); exact HO957.out) (Kd.R_base ho0) hb); replace HO965 := ak (Kd.R_below (rk HO965) hb); replace HO969 := ak (Kd.S_elder' (by (with_reducible repeat (apply Kd.S_drewN)); exact HO969.out) (Kd.R_base ho0) hb); have HO973 := ak (Kd.R_lower (Kd.R_new' (Kd.R_new' ho0 (Kd.R_lt (rk HO948))) (Kd.R_lt (rk HO960))) (below_size (bl2 HB GE936 GE954))); replace HO948 := ak (Kd.R_elder' (rk HO948) (Kd.R_base ho0) hb); replace HO960 := ak (Kd.R_elder' (rk HO960) (Kd.R_base ho0) hb); replace BK936 := ak (blk_below (bk BK936) hb); replace BK954 := ak (blk_below (bk BK954) hb); replace HB := ak (below_step (bl2 HB GE936 GE954) hb); (try clear hb); (try clear hb2); (try clear hk); (try clear hi); (try clear ho0); obtain ⟨Ao64, co64, eo64⟩ := Kd.R_slice HO973.out; subst eo64) | ((with_reducible refine gate_callee (f := 19) rfl ?_); refine goesL_ (some 59) rfl rfl Try.func19 (by kernel_rfl) rfl #[.slice Ao55 t958.length co55, .slice Ao64 t971.length co64] rfl (by (try simp only [List.map_toArray, List.map_cons, List.map_nil]); rfl) ?_; (with_reducible refine (laws_eqIntS.calls k _ _ t958 _ _ t971 true _ ?side1 ?side2 ?side3 ?side4 A32.out).mono ?_); (case side1 => repeat (exact (Kd.R_reads' HO960.out).2.2)); (case side2 => exact (Kd.R_reads' HO960.out).2.1); (case side3 => repeat (exact (Kd.R_reads' HO973.out).2.2)); (case side4 => exact (Kd.R_reads' HO973.out).2.1); rintro e w' ⟨rfl, ⟨nd, rfl⟩⟩; refine ⟨_, rfl, ?_⟩))
 go_ret
 exact ⟨by rfl, bl2 HB GE936 GE954⟩
/-- THE ONE PURE STATEMENT of laws_FnExactSeenCost. -/
def laws_FnExactSeenCost.Pure : Prop := ∀ (a0_0 : Int) (l0_1 : List (S132)) (l1 : List (List Int)) (l2 : List Int), (Lit.int .i64 a0_0).wf = true → (l0_1.length ≤ 9223372036854775807 ∧ ∀ y_ ∈ l0_1, ((Lit.int .i64 y_.f0).wf = true ∧ ((Lit.int .i64 y_.f1).wf = true ∧ ((Lit.int .i64 y_.f2).wf = true ∧ ((Lit.int .i64 y_.f3).wf = true ∧ ((Lit.int .i64 y_.f4).wf = true)))))) → (l1.length ≤ 9223372036854775807 ∧ ∀ y_ ∈ l1, (y_.length ≤ 9223372036854775807 ∧ ∀ y__ ∈ y_, (Lit.int .i64 y__).wf = true)) → (l2.length ≤ 9223372036854775807 ∧ ∀ y_ ∈ l2, (Lit.int .i64 y_).wf = true) → ∃ k, laws_FnExactSeenCost.f k a0_0 l0_1 l1 l2 = some true

end Go.Proofs.Ytbappbbljncdeaa.F
