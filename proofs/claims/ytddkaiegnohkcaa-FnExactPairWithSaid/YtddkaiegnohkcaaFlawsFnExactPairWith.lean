-- Printed by wip/px/px.py of this claim's repository (the kit's printer, extended there). Lean checks it.
import Derived.Test.YtddkaiegnohkcaaFKinds
import Derived.Test.YtddkaiegnohkcaaFlawsNet
import Derived.Test.YtddkaiegnohkcaaFspecPairWith
import Derived.Test.YtddkaiegnohkcaaFlawsNet
import Derived.Test.YtddkaiegnohkcaaFimplPairWith
import Derived.Test.YtddkaiegnohkcaaFlawsNet
namespace Go.Proofs.Ytddkaiegnohkcaa.F
open Go.RowKit Go.Proofs.YtddkaiegnohkcaaW.PrintWords Go.Proofs.YtddkaiegnohkcaaW.PrintLast Go.Proofs.YtddkaiegnohkcaaW.PrintMore
attribute [local go_sem] max2_int min2_int max_two min_two max_three min_three max_four min_four   -- for this text's walks alone
set_option linter.unusedVariables false
set_option linter.unusedSimpArgs false

/-! ### laws_FnExactPairWith: function 4 -/
def laws_FnExactPairWith.f (k : Nat) (a0_0 : Int) (l0_1 : List (S95)) (a1 : Int) (a2 : Int) (a3 : Int) : Option (Bool) := (laws_szNet.f a0_0 l0_1 1048576).bind fun t402 => (if t402 < 0 then (some true) else ((laws_toNet.f k a0_0 l0_1).bind fun bt403 => ((spec_PairWith.f k bt403.1 bt403.2 a1 a2 a3).bind fun t407 => ((laws_toNet.f k a0_0 l0_1).bind fun bt408 => ((impl_PairWith.f k bt408.1 bt408.2 a1 a2 a3).bind fun t413 => (if t413 = t407 then ((laws_toNet.f k a0_0 l0_1).bind fun bt414 => ((laws_eqNet.f k bt408.1 bt408.2 bt414.1 bt414.2).bind fun t418 => (if t418 = true then (some true) else (some false)))) else (some false)))))))
theorem laws_FnExactPairWith.mono : ∀ a0 a1 a2 a3 a4 k, LeO (laws_FnExactPairWith.f k a0 a1 a2 a3 a4) (laws_FnExactPairWith.f (k + 1) a0 a1 a2 a3 a4) := by
 intro a0 a1 a2 a3 a4 k
 unfold laws_FnExactPairWith.f
 repeat' first | (with_reducible exact impl_PairWith.mono _ _ _ _ _ _) | (with_reducible exact laws_eqNet.mono _ _ _ _ _) | (with_reducible exact laws_toNet.mono _ _ _) | (with_reducible exact spec_PairWith.mono _ _ _ _ _ _) | (with_reducible exact LeO.refl _) | (with_reducible refine LeO.ite ?_ ?_) | (with_reducible refine LeO.bind ?_ (fun _ => ?_))
set_option maxHeartbeats 8000000 in
set_option maxRecDepth 100000 in
theorem laws_FnExactPairWith.calls (k : Nat) (a0_0 : Int) (A0_1 : Option Addr) (c0_1 : Nat) (l0_1 : List (S95)) (a1 : Int) (a2 : Int) (a3 : Int) (r : Bool) (w : World) (hr0_1 : Kd.C k95 w A0_1 l0_1.length l0_1) (hc0_1 : l0_1.length ≤ c0_1) (h : laws_FnExactPairWith.f k a0_0 l0_1 a1 a2 a3 = some r) (hr_ : r = true) :
  Calls Try.prog 4 #[.agg #[.int .i64 a0_0, .slice A0_1 l0_1.length c0_1], .int .i64 a1, .int .i64 a2, .int .i64 a3] w fun e w' => e = .returned (.bool r) ∧ Below w.heap.size w w' := by
 have hu40 := Try.underlying40
 have hu25 := Try.underlying25
 have HR0_1 := ak hr0_1
 have HC0_1 := ak hc0_1
 clear hr0_1 hc0_1
 have HB := ak (Below.refl w.heap.size w)
 have H : ((laws_szNet.f a0_0 l0_1 1048576).bind fun t402 => (if t402 < 0 then (some true) else ((laws_toNet.f k a0_0 l0_1).bind fun bt403 => ((spec_PairWith.f k bt403.1 bt403.2 a1 a2 a3).bind fun t407 => ((laws_toNet.f k a0_0 l0_1).bind fun bt408 => ((impl_PairWith.f k bt408.1 bt408.2 a1 a2 a3).bind fun t413 => (if t413 = t407 then ((laws_toNet.f k a0_0 l0_1).bind fun bt414 => ((laws_eqNet.f k bt408.1 bt408.2 bt414.1 bt414.2).bind fun t418 => (if t418 = true then (some true) else (some false)))) else (some false)))))))) = some r := h
 clear h
 replace H := Option.bind_eq_some_iff.mp H
 obtain ⟨t402, A50, H⟩ := H
 have A5 := ak A50
 clear A50
 by_cases c6 : t402 < 0
 ·rw [if_pos c6] at H
  have c6b0 : decide (t402 < 0) = true := decide_eq_true c6
  clear c6
  obtain rfl := Option.some.inj H
  go_enter Try.func4, Try.ntmps4
  go_wp2_with (first | ((with_reducible refine gate_dst (N := 4) rfl ?_); refine box_event ?hg (N := 4) ?hd (cs := #[.int .i64 a0_0, .slice A0_1 l0_1.length c0_1]) (t := 40) ?hr ?_; (case hd => rfl); (case hg => rfl); (case hr => (go_simp; done)); intro gb401 hg w7 hbox hb; have BK401 := ak (hbox); have GW401 := ak ((by rw [hg]; exact (below_size (bl HB)) : w.heap.size ≤ gb401)); have GE401 := ak ((by rw [hg]; exact (below_size (bl HB)) : w.heap.size ≤ gb401)); replace HB := ak (below_step (bl HB) hb); clear hb hbox hg; have hcz8_0 := bc w7 BK401 0 (.int .i64 a0_0) rfl; have hcz8_1 := bc w7 BK401 1 (.slice A0_1 l0_1.length c0_1) rfl; have hfz8_0 := fz BK401 0; have hfz8_1 := fz BK401 1) | ((with_reducible refine gate_callee (f := 17) rfl ?_); refine goesL_ (some 15) rfl rfl Try.func17 (by kernel_rfl) rfl #[.agg #[.int .i64 a0_0, .slice A0_1 l0_1.length c0_1], .int .i64 1048576] rfl (by (try simp only [List.map_toArray, List.map_cons, List.map_nil]); rfl) ?_; (with_reducible refine (laws_szNet.calls a0_0 _ _ l0_1 1048576 t402 _ ?side1 ?side2 A5.out).mono ?_); (case side1 => repeat (exact (Kd.C_below HR0_1.out HB.out))); (case side2 => exact HC0_1.out); rintro e w9 ⟨rfl, hb⟩; refine ⟨_, rfl, ?_⟩; replace BK401 := ak (blk_below (bk BK401) hb); replace HB := ak (below_step (bl1 HB GE401) hb); (try clear hb); (try clear hb2); (try clear hk); (try clear hi)))
  go_ret
  exact ⟨by rfl, bl1 HB GE401⟩
 rw [if_neg c6] at H
 have c6b0 : decide (t402 < 0) = false := decide_eq_false c6
 clear c6
 replace H := Option.bind_eq_some_iff.mp H
 obtain ⟨⟨t403, t404⟩, A100, H⟩ := H
 have A10 := ak A100
 clear A100
 replace H := Option.bind_eq_some_iff.mp H
 obtain ⟨t407, A110, H⟩ := H
 have A11 := ak A110
 clear A110
 replace H := Option.bind_eq_some_iff.mp H
 obtain ⟨⟨t408, t409⟩, A120, H⟩ := H
 have A12 := ak A120
 clear A120
 replace H := Option.bind_eq_some_iff.mp H
 obtain ⟨t413, A130, H⟩ := H
 have A13 := ak A130
 clear A130
 by_cases c14 : t413 = t407
 rotate_left
 ·rw [if_neg c14] at H
  have c14b0 : (t413 == t407) = false := beq_eq_false_iff_ne.mpr c14
  have c14b1 : (t413 != t407) = true := bne_iff_ne.mpr c14
  exact absurd ((Option.some.inj H).trans hr_) Bool.false_ne_true
 rw [if_pos c14] at H
 have c14b0 : (t413 == t407) = true := beq_iff_eq.mpr c14
 have c14b1 : (t413 != t407) = false := bne_eq_false_iff_eq.mpr c14
 clear c14
 replace H := Option.bind_eq_some_iff.mp H
 obtain ⟨⟨t414, t415⟩, A150, H⟩ := H
 have A15 := ak A150
 clear A150
 replace H := Option.bind_eq_some_iff.mp H
 obtain ⟨t418, A160, H⟩ := H
 have A16 := ak A160
 clear A160
 by_cases c17 : t418 = true
 rotate_left
 ·replace c17 := Bool.eq_false_iff.mpr c17
  subst c17
  rw [if_neg (show ¬ (false = true) by decide)] at H
  exact absurd ((Option.some.inj H).trans hr_) Bool.false_ne_true
 subst c17
 rw [if_pos rfl] at H
 obtain rfl := Option.some.inj H
 go_enter Try.func4, Try.ntmps4
 try go_wp2_with (first | ((with_reducible refine gate_dst (N := 4) rfl ?_); refine box_event ?hg (N := 4) ?hd (cs := #[.int .i64 a0_0, .slice A0_1 l0_1.length c0_1]) (t := 40) ?hr ?_; (case hd => rfl); (case hg => rfl); (case hr => (go_simp; done)); intro gb401 hg w18 hbox hb; have BK401 := ak (hbox); have GW401 := ak ((by rw [hg]; exact (below_size (bl HB)) : w.heap.size ≤ gb401)); have GE401 := ak ((by rw [hg]; exact (below_size (bl HB)) : w.heap.size ≤ gb401)); replace HB := ak (below_step (bl HB) hb); clear hb hbox hg; have hcz19_0 := bc w18 BK401 0 (.int .i64 a0_0) rfl; have hcz19_1 := bc w18 BK401 1 (.slice A0_1 l0_1.length c0_1) rfl; have hfz19_0 := fz BK401 0; have hfz19_1 := fz BK401 1) | ((with_reducible refine gate_callee (f := 17) rfl ?_); refine goesL_ (some 15) rfl rfl Try.func17 (by kernel_rfl) rfl #[.agg #[.int .i64 a0_0, .slice A0_1 l0_1.length c0_1], .int .i64 1048576] rfl (by (try simp only [List.map_toArray, List.map_cons, List.map_nil]); rfl) ?_; (with_reducible refine (laws_szNet.calls a0_0 _ _ l0_1 1048576 t402 _ ?side1 ?side2 A5.out).mono ?_); (case side1 => repeat (exact (Kd.C_below HR0_1.out HB.out))); (case side2 => exact HC0_1.out); rintro e w20 ⟨rfl, hb⟩; refine ⟨_, rfl, ?_⟩; replace BK401 := ak (blk_below (bk BK401) hb); replace HB := ak (below_step (bl1 HB GE401) hb); (try clear hb); (try clear hb2); (try clear hk); (try clear hi); have hcz21_0 := bc w20 BK401 0 (.int .i64 a0_0) rfl; have hcz21_1 := bc w20 BK401 1 (.slice A0_1 l0_1.length c0_1) rfl; have hfz21_0 := fz BK401 0; have hfz21_1 := fz BK401 1) | ((with_reducible refine gate_callee (f := 19) rfl ?_); refine goesL_ (some 19) rfl rfl Try.func19 (by kernel_rfl) rfl #[.agg #[.int .i64 a0_0, .slice A0_1 l0_1.length c0_1]] rfl (by (try simp only [List.map_toArray, List.map_cons, List.map_nil]); rfl) ?_; (with_reducible refine (laws_toNet.calls k a0_0 _ _ l0_1 t403 t404 _ ?side1 ?side2 A10.out).mono ?_); (case side1 => repeat (exact (Kd.C_below HR0_1.out HB.out))); (case side2 => exact HC0_1.out); rintro e w22 ⟨v405, rfl, ho0, hb⟩; refine ⟨_, rfl, ?_⟩; have HO406 := ak (Kd.R_lower ho0 (below_size (bl1 HB GE401))); replace BK401 := ak (blk_below (bk BK401) hb); replace HB := ak (below_step (bl1 HB GE401) hb); (try clear hb); (try clear hb2); (try clear hk); (try clear hi); (try clear ho0); obtain ⟨Ao23, co23, eo23⟩ := Kd.R_slice HO406.out; subst eo23) | ((with_reducible refine gate_callee (f := 18) rfl ?_); refine goesL_ (some 23) rfl rfl Try.func18 (by kernel_rfl) rfl #[.agg #[.int .i64 t403, .slice Ao23 t404.length co23], .int .i64 a1, .int .i64 a2, .int .i64 a3] rfl (by (try simp only [List.map_toArray, List.map_cons, List.map_nil]); rfl) ?_; (with_reducible refine (spec_PairWith.calls k t403 _ _ t404 a1 a2 a3 t407 _ ?side1 ?side2 A11.out).mono ?_); (case side1 => repeat (exact (Kd.R_reads' HO406.out).2.2)); (case side2 => exact (Kd.R_reads' HO406.out).2.1); rintro e w24 ⟨rfl, hb⟩; refine ⟨_, rfl, ?_⟩; replace HO406 := ak (Kd.R_below (rk HO406) hb); replace BK401 := ak (blk_below (bk BK401) hb); replace HB := ak (below_step (bl1 HB GE401) hb); (try clear hb); (try clear hb2); (try clear hk); (try clear hi); have hcz25_0 := bc w24 BK401 0 (.int .i64 a0_0) rfl; have hcz25_1 := bc w24 BK401 1 (.slice A0_1 l0_1.length c0_1) rfl; have hfz25_0 := fz BK401 0; have hfz25_1 := fz BK401 1) | ((with_reducible refine gate_callee (f := 19) rfl ?_); refine goesL_ (some 25) rfl rfl Try.func19 (by kernel_rfl) rfl #[.agg #[.int .i64 a0_0, .slice A0_1 l0_1.length c0_1]] rfl (by (try simp only [List.map_toArray, List.map_cons, List.map_nil]); rfl) ?_; (with_reducible refine (laws_toNet.calls k a0_0 _ _ l0_1 t408 t409 _ ?side1 ?side2 A12.out).mono ?_); (case side1 => repeat (exact (Kd.C_below HR0_1.out HB.out))); (case side2 => exact HC0_1.out); rintro e w26 ⟨v410, rfl, ho0, hb⟩; refine ⟨_, rfl, ?_⟩; have HO411 := ak (Kd.R_lower (Kd.R_new' ho0 (Kd.R_lt (rk HO406))) (below_size (bl1 HB GE401))); replace HO406 := ak (Kd.R_elder' (rk HO406) (Kd.R_base ho0) hb); replace BK401 := ak (blk_below (bk BK401) hb); replace HB := ak (below_step (bl1 HB GE401) hb); (try clear hb); (try clear hb2); (try clear hk); (try clear hi); (try clear ho0)) | ((with_reducible refine gate_dst (N := 11) rfl ?_); refine box_event ?hg (N := 11) ?hd (cs := #[.int .i64 0, .slice none 0 0]) (t := 25) ?hr ?_; (case hd => rfl); (case hg => rfl); (case hr => (go_simp; done)); intro gb412 hg w27 hbox hb; replace HO406 := ak (Kd.R_below (rk HO406) hb); replace HO411 := ak (Kd.R_below (rk HO411) hb); have BK412 := ak (hbox); have GW412 := ak ((by rw [hg]; exact (below_size (bl1 HB GE401)) : w.heap.size ≤ gb412)); have GE412 := ak ((by rw [hg]; exact (below_size (bl1 HB GE401)) : w.heap.size ≤ gb412)); replace HB := ak (below_step (bl1 HB GE401) hb); have NB401_412 := ak ((by rw [hg]; exact Nat.ne_of_lt (blk_lt (bk BK401)) : gb401 ≠ gb412)); have NB412_401 := ak ((by rw [hg]; exact Nat.ne_of_gt (blk_lt (bk BK401)) : gb412 ≠ gb401)); replace BK401 := ak (blk_below (bk BK401) hb); clear hb hbox hg; have hnb28 := NB412_401.out; have hnc28 := NB401_412.out; have hcz29_0 := bc w27 BK412 0 (.int .i64 0) rfl; have hcz29_1 := bc w27 BK412 1 (.slice none 0 0) rfl; have hfz29_0 := fz BK412 0; have hfz29_1 := fz BK412 1; obtain ⟨Ao30, co30, eo30⟩ := Kd.R_slice HO411.out; subst eo30) | ((with_reducible refine gate_callee (f := 20) rfl ?_); refine goesL_ (some 30) rfl rfl Try.func20 (by kernel_rfl) rfl #[.agg #[.int .i64 t408, .slice Ao30 t409.length co30], .int .i64 a1, .int .i64 a2, .int .i64 a3] rfl (by (try simp only [List.map_toArray, List.map_cons, List.map_nil]); rfl) ?_; (with_reducible refine (impl_PairWith.calls k t408 _ _ t409 a1 a2 a3 t413 _ ?side1 ?side2 A13.out).mono ?_); (case side1 => refine (Kd.R_reads' (e := 33) (base := w.heap.size) (ok := fun k_ => (True ∧ some k_ ≠ (.slice Ao23 t404.length co23 : Value).ownBlock)) (n := t409.length) (c := co30) ?_).2.2; exact (by exact (Kd.R_mono (Kd.R_far (p := ⟨gb412, 1, none⟩) (Kd.R_far (p := ⟨gb412, 0, none⟩) (Kd.R_types HO411.out BK412.out (by decide)) (fun _ hk => hk.2) (.int .i64 t408)) (fun _ hk => hk.2) (.slice Ao30 t409.length co30)) (fun _ h_ => h_.1)))); (case side2 => exact (Kd.R_reads' HO411.out).2.1); rintro e w31 ⟨rfl, hb⟩; refine ⟨_, rfl, ?_⟩; replace HO406 := ak (Kd.R_below (by exact (Kd.R_mono (Kd.R_far (p := ⟨gb412, 1, none⟩) (Kd.R_far (p := ⟨gb412, 0, none⟩) (Kd.R_types HO406.out BK412.out (by decide)) (fun _ hk => hk.2) (.int .i64 t408)) (fun _ hk => hk.2) (.slice Ao30 t409.length co30)) (fun _ h_ => h_.1))) hb); replace HO411 := ak (Kd.R_below (by exact (Kd.R_mono (Kd.R_far (p := ⟨gb412, 1, none⟩) (Kd.R_far (p := ⟨gb412, 0, none⟩) (Kd.R_types HO411.out BK412.out (by decide)) (fun _ hk => hk.2) (.int .i64 t408)) (fun _ hk => hk.2) (.slice Ao30 t409.length co30)) (fun _ h_ => h_.1))) hb); replace BK401 := ak (blk_below (g := gb401) (o := .cells #[.int .i64 a0_0, .slice A0_1 l0_1.length c0_1] 40 (0, 0)) (by refine blk_far ?_ NB401_412.out _; refine blk_far ?_ NB401_412.out _; exact BK401.out) hb); replace BK412 := ak (blk_below (g := gb412) (o := .cells #[.int .i64 t408, .slice Ao30 t409.length co30] 25 (0, 0)) (by refine blk_put (cs := #[.int .i64 t408, .slice none 0 0]) ?_ 1 _ rfl; refine blk_put (cs := #[.int .i64 0, .slice none 0 0]) ?_ 0 _ rfl; exact BK412.out) hb); replace HB := ak (below_step (bl2 HB GE401 GE412) hb); (try clear hb); (try clear hb2); (try clear hk); (try clear hi)))
 replace HO406 := ak (Kd.R_drew HO406.out)
 replace HO411 := ak (Kd.R_drew HO411.out)
 replace BK401 := ak (blk_drew BK401.out)
 replace BK412 := ak (blk_drew BK412.out)
 replace HB := ak (below_drew1 HB.out)
 refine start_ (n := 5) (S := fun w' => w'.cell? ⟨gb412, 0, none⟩ = some (.int .i64 t408) ∧ w'.cell? ⟨gb412, 1, none⟩ = some (.slice Ao30 t409.length co30) ∧ w'.cell? ⟨gb401, 0, none⟩ = some (.int .i64 a0_0) ∧ w'.cell? ⟨gb401, 1, none⟩ = some (.slice A0_1 l0_1.length c0_1)) (ds := []) #[false, false, false, false, false] (by kernel_rfl) rfl (by kernel_rfl) ⟨(blk_cell BK412.out 0).trans rfl, (blk_cell BK412.out 1).trans rfl, (blk_cell BK401.out 0).trans rfl, (blk_cell BK401.out 1).trans rfl⟩ (fun hHeld => ?_)
 generalize w31.drew = w32 at HO406 HO411 BK401 BK412 HB hHeld ⊢
 refine take_ (i := 0) (N := some 34) (v := ?_) (a' := ?_) #[true, false, false, false, false] rfl rfl (by kernel_rfl) (fun _ _ _ h => h) (Or.inl ⟨by rfl, ?_⟩) hHeld ?_ ?_
 rotate_left
 ·rintro w' ⟨s0, s1, s2, s3⟩
  go_simp
  with_reducible rfl
 rotate_left
 ·simp only [SX]
  rfl
 refine take_ (i := 1) (N := some 35) (v := ?_) (a' := ?_) #[true, true, false, false, false] rfl rfl (by kernel_rfl) (fun _ _ _ h => h) (Or.inl ⟨by rfl, ?_⟩) hHeld ?_ ?_
 rotate_left
 ·rintro w' ⟨s0, s1, s2, s3⟩
  go_simp
  with_reducible rfl
 rotate_left
 ·simp only [SX]
  rfl
 refine one_ (i := 2) (N := some 36) #[true, true, true, false, false] rfl rfl (by kernel_rfl) (by decide) (fun K hK => ?_)
 refine goes_ Try.func19 (by kernel_rfl) rfl #[.agg #[.int .i64 a0_0, .slice A0_1 l0_1.length c0_1]] (by rfl) rfl rfl (by (try simp only [List.map_toArray, List.map_cons, List.map_nil]); rfl) ?_
 with_reducible refine (laws_toNet.calls k a0_0 _ _ l0_1 t414 t415 _ ?side1 ?side2 A15.out).mono ?_
 (case side1 => repeat (exact (Kd.C_below HR0_1.out HB.out)))
 (case side2 => exact HC0_1.out)
 rintro e w33 ⟨v416, rfl, ho0, hb⟩
 refine ⟨_, rfl, ?_⟩
 have HO417 := ak (Kd.R_lower (Kd.R_new' (Kd.R_new' ho0 (Kd.R_lt (rk HO406))) (Kd.R_lt (rk HO411))) (below_size (bl2 HB GE401 GE412)))
 replace HO406 := ak (Kd.R_elder' (rk HO406) (Kd.R_base ho0) hb)
 replace HO411 := ak (Kd.R_elder' (rk HO411) (Kd.R_base ho0) hb)
 replace BK401 := ak (blk_below (bk BK401) hb)
 replace BK412 := ak (blk_below (bk BK412) hb)
 replace HB := ak (below_step (bl2 HB GE401 GE412) hb)
 (try clear hb)
 (try clear hb2)
 (try clear hk)
 (try clear hi)
 (try clear ho0)
 obtain ⟨Ao34, co34, eo34⟩ := Kd.R_slice HO417.out
 (subst eo34)
 refine hK.out _ _ ⟨(blk_cell BK412.out 0).trans rfl, (blk_cell BK412.out 1).trans rfl, (blk_cell BK401.out 0).trans rfl, (blk_cell BK401.out 1).trans rfl⟩ (fun hHeld => ?_)
 clear hK K
 refine norm_ (a' := ?_) ?_ ?_
 rotate_left
 ·show Act.put _ (some 36) _ = _
  simp only [SX]
  rfl
 refine one_ (i := 3) (N := some 37) #[true, true, true, true, false] rfl rfl (by kernel_rfl) (by decide) (fun K hK => ?_)
 refine goes_ Try.func21 (by kernel_rfl) rfl #[.agg #[.int .i64 t408, .slice Ao30 t409.length co30], .agg #[.int .i64 t414, .slice Ao34 t415.length co34]] (by rfl) rfl rfl (by (try simp only [List.map_toArray, List.map_cons, List.map_nil]); rfl) ?_
 with_reducible refine (laws_eqNet.calls k t408 _ _ t409 t414 _ _ t415 true _ ?side1 ?side2 ?side3 ?side4 A16.out).mono ?_
 (case side1 => repeat (exact (Kd.R_reads' HO411.out).2.2))
 (case side2 => exact (Kd.R_reads' HO411.out).2.1)
 (case side3 => repeat (exact (Kd.R_reads' HO417.out).2.2))
 (case side4 => exact (Kd.R_reads' HO417.out).2.1)
 rintro e w35 ⟨rfl, hb⟩
 refine ⟨_, rfl, ?_⟩
 replace HO406 := ak (Kd.R_below (rk HO406) hb)
 replace HO411 := ak (Kd.R_below (rk HO411) hb)
 replace HO417 := ak (Kd.R_below (rk HO417) hb)
 replace BK401 := ak (blk_below (bk BK401) hb)
 replace BK412 := ak (blk_below (bk BK412) hb)
 replace HB := ak (below_step (bl2 HB GE401 GE412) hb)
 (try clear hb)
 (try clear hb2)
 (try clear hk)
 (try clear hi)
 refine hK.out _ _ ⟨(blk_cell BK412.out 0).trans rfl, (blk_cell BK412.out 1).trans rfl, (blk_cell BK401.out 0).trans rfl, (blk_cell BK401.out 1).trans rfl⟩ (fun hHeld => ?_)
 clear hK K
 refine norm_ (a' := ?_) ?_ ?_
 rotate_left
 ·show Act.put _ (some 37) _ = _
  simp only [SX]
  rfl
 refine pure_ (i := 4) (N := some 38) (v := ?_) (a' := ?_) #[true, true, true, true, true] rfl rfl (by kernel_rfl) (fun _ _ _ h => h) (Or.inl ⟨by rfl, ?_⟩) ?_ ?_
 rotate_left
 ·intro w'
  go_simp
  with_reducible rfl
 rotate_left
 ·simp only [SX]
  rfl
 refine done_ (by kernel_rfl) ?_
 try go_wp2
 go_ret
 exact ⟨by rfl, bl2 HB GE401 GE412⟩
/-- THE ONE PURE STATEMENT of laws_FnExactPairWith. -/
def laws_FnExactPairWith.Pure : Prop := ∀ (a0_0 : Int) (l0_1 : List (S95)) (a1 : Int) (a2 : Int) (a3 : Int), (Lit.int .i64 a0_0).wf = true → (l0_1.length ≤ 9223372036854775807 ∧ ∀ y_ ∈ l0_1, ((Lit.int .i64 y_.f0).wf = true ∧ ((Lit.int .i64 y_.f1).wf = true ∧ ((Lit.int .i64 y_.f2).wf = true ∧ ((Lit.int .i64 y_.f3).wf = true ∧ ((Lit.int .i64 y_.f4).wf = true)))))) → (Lit.int .i64 a1).wf = true → (Lit.int .i64 a2).wf = true → (Lit.int .i64 a3).wf = true → ∃ k, laws_FnExactPairWith.f k a0_0 l0_1 a1 a2 a3 = some true

end Go.Proofs.Ytddkaiegnohkcaa.F
