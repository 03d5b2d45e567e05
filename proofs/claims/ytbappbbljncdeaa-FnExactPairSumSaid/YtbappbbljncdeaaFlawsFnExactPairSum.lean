-- Printed by wip/px/px.py of this claim's repository (the kit's printer, extended there). Lean checks it.
import Derived.Test.YtbappbbljncdeaaFKinds
import Derived.Test.YtbappbbljncdeaaFlawsNet
import Derived.Test.YtbappbbljncdeaaFlawsNet
import Derived.Test.YtbappbbljncdeaaFlawsNet
import Derived.Test.YtbappbbljncdeaaFspecPairSum
import Derived.Test.YtbappbbljncdeaaFimplPairSum
namespace Go.Proofs.Ytbappbbljncdeaa.F
open Go.RowKit Go.Proofs.YtbappbbljncdeaaW.PrintWords Go.Proofs.YtbappbbljncdeaaW.PrintLast Go.Proofs.YtbappbbljncdeaaW.PrintMore
attribute [local go_sem] max2_int min2_int max_two min_two max_three min_three max_four min_four   -- for this text's walks alone
set_option linter.unusedVariables false
set_option linter.unusedSimpArgs false

/-! ### laws_FnExactPairSum: function 14 -/
def laws_FnExactPairSum.f (k : Nat) (a0_0 : Int) (l0_1 : List (S132)) (a1 : Int) (a2 : Int) (a3 : Int) (a4 : Int) : Option (Bool) := (laws_szNet.f a0_0 l0_1 1048576).bind fun t221 => (if t221 < 0 then (some true) else ((laws_toNet.f k a0_0 l0_1).bind fun bt222 => ((spec_PairSum.f k bt222.1 bt222.2 a1 a2 a3 a4).bind fun t226 => ((laws_toNet.f k a0_0 l0_1).bind fun bt227 => ((impl_PairSum.f k bt227.1 bt227.2 a1 a2 a3 a4).bind fun t232 => (if t232 = t226 then ((laws_toNet.f k a0_0 l0_1).bind fun bt233 => ((laws_eqNet.f k bt227.1 bt227.2 bt233.1 bt233.2).bind fun t237 => (if t237 = true then (some true) else (some false)))) else (some false)))))))
theorem laws_FnExactPairSum.mono : ∀ a0 a1 a2 a3 a4 a5 k, LeO (laws_FnExactPairSum.f k a0 a1 a2 a3 a4 a5) (laws_FnExactPairSum.f (k + 1) a0 a1 a2 a3 a4 a5) := by
 intro a0 a1 a2 a3 a4 a5 k
 unfold laws_FnExactPairSum.f
 repeat' first | (with_reducible exact impl_PairSum.mono _ _ _ _ _ _ _) | (with_reducible exact laws_eqNet.mono _ _ _ _ _) | (with_reducible exact laws_toNet.mono _ _ _) | (with_reducible exact spec_PairSum.mono _ _ _ _ _ _ _) | (with_reducible exact LeO.refl _) | (with_reducible refine LeO.ite ?_ ?_) | (with_reducible refine LeO.bind ?_ (fun _ => ?_))
set_option maxHeartbeats 8000000 in
set_option maxRecDepth 100000 in
theorem laws_FnExactPairSum.calls (k : Nat) (a0_0 : Int) (A0_1 : Option Addr) (c0_1 : Nat) (l0_1 : List (S132)) (a1 : Int) (a2 : Int) (a3 : Int) (a4 : Int) (r : Bool) (w : World) (hr0_1 : Kd.C k132 w A0_1 l0_1.length l0_1) (hc0_1 : l0_1.length ≤ c0_1) (h : laws_FnExactPairSum.f k a0_0 l0_1 a1 a2 a3 a4 = some r) (hr_ : r = true) :
  Calls Try.prog 14 #[.agg #[.int .i64 a0_0, .slice A0_1 l0_1.length c0_1], .int .i64 a1, .int .i64 a2, .int .i64 a3, .int .i64 a4] w fun e w' => e = .returned (.bool r) ∧ Below w.heap.size w w' := by
 have hu24 := Try.underlying24
 have hu30 := Try.underlying30
 have HR0_1 := ak hr0_1
 have HC0_1 := ak hc0_1
 clear hr0_1 hc0_1
 have HB := ak (Below.refl w.heap.size w)
 have H : ((laws_szNet.f a0_0 l0_1 1048576).bind fun t221 => (if t221 < 0 then (some true) else ((laws_toNet.f k a0_0 l0_1).bind fun bt222 => ((spec_PairSum.f k bt222.1 bt222.2 a1 a2 a3 a4).bind fun t226 => ((laws_toNet.f k a0_0 l0_1).bind fun bt227 => ((impl_PairSum.f k bt227.1 bt227.2 a1 a2 a3 a4).bind fun t232 => (if t232 = t226 then ((laws_toNet.f k a0_0 l0_1).bind fun bt233 => ((laws_eqNet.f k bt227.1 bt227.2 bt233.1 bt233.2).bind fun t237 => (if t237 = true then (some true) else (some false)))) else (some false)))))))) = some r := h
 clear h
 replace H := Option.bind_eq_some_iff.mp H
 obtain ⟨t221, A60, H⟩ := H
 have A6 := ak A60
 clear A60
 by_cases c7 : t221 < 0
 ·rw [if_pos c7] at H
  have c7b0 : decide (t221 < 0) = true := decide_eq_true c7
  clear c7
  obtain rfl := Option.some.inj H
  go_enter Try.func14, Try.ntmps14
  go_wp2_with (first | ((with_reducible refine gate_dst (N := 5) rfl ?_); refine box_event ?hg (N := 5) ?hd (cs := #[.int .i64 a0_0, .slice A0_1 l0_1.length c0_1]) (t := 24) ?hr ?_; (case hd => rfl); (case hg => rfl); (case hr => (go_simp; done)); intro gb220 hg w8 hbox hb; have BK220 := ak (hbox); have GW220 := ak ((by rw [hg]; exact (below_size (bl HB)) : w.heap.size ≤ gb220)); have GE220 := ak ((by rw [hg]; exact (below_size (bl HB)) : w.heap.size ≤ gb220)); replace HB := ak (below_step (bl HB) hb); clear hb hbox hg; have hcz9_0 := bc w8 BK220 0 (.int .i64 a0_0) rfl; have hcz9_1 := bc w8 BK220 1 (.slice A0_1 l0_1.length c0_1) rfl; have hfz9_0 := fz BK220 0; have hfz9_1 := fz BK220 1) | ((with_reducible refine gate_callee (f := 15) rfl ?_); refine goesL_ (some 17) rfl rfl Try.func15 (by kernel_rfl) rfl #[.agg #[.int .i64 a0_0, .slice A0_1 l0_1.length c0_1], .int .i64 1048576] rfl (by (try simp only [List.map_toArray, List.map_cons, List.map_nil]); rfl) ?_; (with_reducible refine (laws_szNet.calls a0_0 _ _ l0_1 1048576 t221 _ ?side1 ?side2 A6.out).mono ?_); (case side1 => repeat (exact (Kd.C_below HR0_1.out HB.out))); (case side2 => exact HC0_1.out); rintro e w10 ⟨rfl, hb⟩; refine ⟨_, rfl, ?_⟩; replace BK220 := ak (blk_below (bk BK220) hb); replace HB := ak (below_step (bl1 HB GE220) hb); (try clear hb); (try clear hb2); (try clear hk); (try clear hi)))
  go_ret
  exact ⟨by rfl, bl1 HB GE220⟩
 rw [if_neg c7] at H
 have c7b0 : decide (t221 < 0) = false := decide_eq_false c7
 clear c7
 replace H := Option.bind_eq_some_iff.mp H
 obtain ⟨⟨t222, t223⟩, A110, H⟩ := H
 have A11 := ak A110
 clear A110
 replace H := Option.bind_eq_some_iff.mp H
 obtain ⟨t226, A120, H⟩ := H
 have A12 := ak A120
 clear A120
 replace H := Option.bind_eq_some_iff.mp H
 obtain ⟨⟨t227, t228⟩, A130, H⟩ := H
 have A13 := ak A130
 clear A130
 replace H := Option.bind_eq_some_iff.mp H
 obtain ⟨t232, A140, H⟩ := H
 have A14 := ak A140
 clear A140
 by_cases c15 : t232 = t226
 rotate_left
 ·rw [if_neg c15] at H
  have c15b0 : (t232 == t226) = false := beq_eq_false_iff_ne.mpr c15
  have c15b1 : (t232 != t226) = true := bne_iff_ne.mpr c15
  exact absurd ((Option.some.inj H).trans hr_) Bool.false_ne_true
 rw [if_pos c15] at H
 have c15b0 : (t232 == t226) = true := beq_iff_eq.mpr c15
 have c15b1 : (t232 != t226) = false := bne_eq_false_iff_eq.mpr c15
 clear c15
 replace H := Option.bind_eq_some_iff.mp H
 obtain ⟨⟨t233, t234⟩, A160, H⟩ := H
 have A16 := ak A160
 clear A160
 replace H := Option.bind_eq_some_iff.mp H
 obtain ⟨t237, A170, H⟩ := H
 have A17 := ak A170
 clear A170
 by_cases c18 : t237 = true
 rotate_left
 ·replace c18 := Bool.eq_false_iff.mpr c18
  subst c18
  rw [if_neg (show ¬ (false = true) by decide)] at H
  exact absurd ((Option.some.inj H).trans hr_) Bool.false_ne_true
 subst c18
 rw [if_pos rfl] at H
 obtain rfl := Option.some.inj H
 go_enter Try.func14, Try.ntmps14
 try go_wp2_with (first | ((with_reducible refine gate_dst (N := 5) rfl ?_); refine box_event ?hg (N := 5) ?hd (cs := #[.int .i64 a0_0, .slice A0_1 l0_1.length c0_1]) (t := 24) ?hr ?_; (case hd => rfl); (case hg => rfl); (case hr => (go_simp; done)); intro gb220 hg w19 hbox hb; have BK220 := ak (hbox); have GW220 := ak ((by rw [hg]; exact (below_size (bl HB)) : w.heap.size ≤ gb220)); have GE220 := ak ((by rw [hg]; exact (below_size (bl HB)) : w.heap.size ≤ gb220)); replace HB := ak (below_step (bl HB) hb); clear hb hbox hg; have hcz20_0 := bc w19 BK220 0 (.int .i64 a0_0) rfl; have hcz20_1 := bc w19 BK220 1 (.slice A0_1 l0_1.length c0_1) rfl; have hfz20_0 := fz BK220 0; have hfz20_1 := fz BK220 1) | ((with_reducible refine gate_callee (f := 15) rfl ?_); refine goesL_ (some 17) rfl rfl Try.func15 (by kernel_rfl) rfl #[.agg #[.int .i64 a0_0, .slice A0_1 l0_1.length c0_1], .int .i64 1048576] rfl (by (try simp only [List.map_toArray, List.map_cons, List.map_nil]); rfl) ?_; (with_reducible refine (laws_szNet.calls a0_0 _ _ l0_1 1048576 t221 _ ?side1 ?side2 A6.out).mono ?_); (case side1 => repeat (exact (Kd.C_below HR0_1.out HB.out))); (case side2 => exact HC0_1.out); rintro e w21 ⟨rfl, hb⟩; refine ⟨_, rfl, ?_⟩; replace BK220 := ak (blk_below (bk BK220) hb); replace HB := ak (below_step (bl1 HB GE220) hb); (try clear hb); (try clear hb2); (try clear hk); (try clear hi); have hcz22_0 := bc w21 BK220 0 (.int .i64 a0_0) rfl; have hcz22_1 := bc w21 BK220 1 (.slice A0_1 l0_1.length c0_1) rfl; have hfz22_0 := fz BK220 0; have hfz22_1 := fz BK220 1) | ((with_reducible refine gate_callee (f := 17) rfl ?_); refine goesL_ (some 21) rfl rfl Try.func17 (by kernel_rfl) rfl #[.agg #[.int .i64 a0_0, .slice A0_1 l0_1.length c0_1]] rfl (by (try simp only [List.map_toArray, List.map_cons, List.map_nil]); rfl) ?_; (with_reducible refine (laws_toNet.calls k a0_0 _ _ l0_1 t222 t223 _ ?side1 ?side2 A11.out).mono ?_); (case side1 => repeat (exact (Kd.C_below HR0_1.out HB.out))); (case side2 => exact HC0_1.out); rintro e w23 ⟨v224, rfl, ho0, hb⟩; refine ⟨_, rfl, ?_⟩; have HO225 := ak (Kd.R_lower ho0 (below_size (bl1 HB GE220))); replace BK220 := ak (blk_below (bk BK220) hb); replace HB := ak (below_step (bl1 HB GE220) hb); (try clear hb); (try clear hb2); (try clear hk); (try clear hi); (try clear ho0); obtain ⟨Ao24, co24, eo24⟩ := Kd.R_slice HO225.out; subst eo24) | ((with_reducible refine gate_callee (f := 55) rfl ?_); refine goesL_ (some 26) rfl rfl Try.func55 (by kernel_rfl) rfl #[.agg #[.int .i64 t222, .slice Ao24 t223.length co24], .int .i64 a1, .int .i64 a2, .int .i64 a3, .int .i64 a4] rfl (by (try simp only [List.map_toArray, List.map_cons, List.map_nil]); rfl) ?_; (with_reducible refine (spec_PairSum.calls k t222 _ _ t223 a1 a2 a3 a4 t226 _ ?side1 ?side2 A12.out).mono ?_); (case side1 => repeat (exact (Kd.R_reads' HO225.out).2.2)); (case side2 => exact (Kd.R_reads' HO225.out).2.1); rintro e w25 ⟨rfl, hb⟩; refine ⟨_, rfl, ?_⟩; replace HO225 := ak (Kd.R_below (rk HO225) hb); replace BK220 := ak (blk_below (bk BK220) hb); replace HB := ak (below_step (bl1 HB GE220) hb); (try clear hb); (try clear hb2); (try clear hk); (try clear hi); have hcz26_0 := bc w25 BK220 0 (.int .i64 a0_0) rfl; have hcz26_1 := bc w25 BK220 1 (.slice A0_1 l0_1.length c0_1) rfl; have hfz26_0 := fz BK220 0; have hfz26_1 := fz BK220 1) | ((with_reducible refine gate_callee (f := 17) rfl ?_); refine goesL_ (some 28) rfl rfl Try.func17 (by kernel_rfl) rfl #[.agg #[.int .i64 a0_0, .slice A0_1 l0_1.length c0_1]] rfl (by (try simp only [List.map_toArray, List.map_cons, List.map_nil]); rfl) ?_; (with_reducible refine (laws_toNet.calls k a0_0 _ _ l0_1 t227 t228 _ ?side1 ?side2 A13.out).mono ?_); (case side1 => repeat (exact (Kd.C_below HR0_1.out HB.out))); (case side2 => exact HC0_1.out); rintro e w27 ⟨v229, rfl, ho0, hb⟩; refine ⟨_, rfl, ?_⟩; have HO230 := ak (Kd.R_lower (Kd.R_new' ho0 (Kd.R_lt (rk HO225))) (below_size (bl1 HB GE220))); replace HO225 := ak (Kd.R_elder' (rk HO225) (Kd.R_base ho0) hb); replace BK220 := ak (blk_below (bk BK220) hb); replace HB := ak (below_step (bl1 HB GE220) hb); (try clear hb); (try clear hb2); (try clear hk); (try clear hi); (try clear ho0)) | ((with_reducible refine gate_dst (N := 13) rfl ?_); refine box_event ?hg (N := 13) ?hd (cs := #[.int .i64 0, .slice none 0 0]) (t := 30) ?hr ?_; (case hd => rfl); (case hg => rfl); (case hr => (go_simp; done)); intro gb231 hg w28 hbox hb; replace HO225 := ak (Kd.R_below (rk HO225) hb); replace HO230 := ak (Kd.R_below (rk HO230) hb); have BK231 := ak (hbox); have GW231 := ak ((by rw [hg]; exact (below_size (bl1 HB GE220)) : w.heap.size ≤ gb231)); have GE231 := ak ((by rw [hg]; exact (below_size (bl1 HB GE220)) : w.heap.size ≤ gb231)); replace HB := ak (below_step (bl1 HB GE220) hb); have NB220_231 := ak ((by rw [hg]; exact Nat.ne_of_lt (blk_lt (bk BK220)) : gb220 ≠ gb231)); have NB231_220 := ak ((by rw [hg]; exact Nat.ne_of_gt (blk_lt (bk BK220)) : gb231 ≠ gb220)); replace BK220 := ak (blk_below (bk BK220) hb); clear hb hbox hg; have hnb29 := NB231_220.out; have hnc29 := NB220_231.out; have hcz30_0 := bc w28 BK231 0 (.int .i64 0) rfl; have hcz30_1 := bc w28 BK231 1 (.slice none 0 0) rfl; have hfz30_0 := fz BK231 0; have hfz30_1 := fz BK231 1; obtain ⟨Ao31, co31, eo31⟩ := Kd.R_slice HO230.out; subst eo31) | ((with_reducible refine gate_callee (f := 56) rfl ?_); refine goesL_ (some 34) rfl rfl Try.func56 (by kernel_rfl) rfl #[.agg #[.int .i64 t227, .slice Ao31 t228.length co31], .int .i64 a1, .int .i64 a2, .int .i64 a3, .int .i64 a4] rfl (by (try simp only [List.map_toArray, List.map_cons, List.map_nil]); rfl) ?_; (with_reducible refine (impl_PairSum.calls k t227 _ _ t228 a1 a2 a3 a4 t232 _ ?side1 ?side2 A14.out).mono ?_); (case side1 => refine (Kd.R_reads' (e := 100) (base := w.heap.size) (ok := fun k_ => (True ∧ some k_ ≠ (.slice Ao24 t223.length co24 : Value).ownBlock)) (n := t228.length) (c := co31) ?_).2.2; exact (by exact (Kd.R_mono (Kd.R_far (p := ⟨gb231, 1, none⟩) (Kd.R_far (p := ⟨gb231, 0, none⟩) (Kd.R_types HO230.out BK231.out (by decide)) (fun _ hk => hk.2) (.int .i64 t227)) (fun _ hk => hk.2) (.slice Ao31 t228.length co31)) (fun _ h_ => h_.1)))); (case side2 => exact (Kd.R_reads' HO230.out).2.1); rintro e w32 ⟨rfl, hb⟩; refine ⟨_, rfl, ?_⟩; replace HO225 := ak (Kd.R_below (by exact (Kd.R_mono (Kd.R_far (p := ⟨gb231, 1, none⟩) (Kd.R_far (p := ⟨gb231, 0, none⟩) (Kd.R_types HO225.out BK231.out (by decide)) (fun _ hk => hk.2) (.int .i64 t227)) (fun _ hk => hk.2) (.slice Ao31 t228.length co31)) (fun _ h_ => h_.1))) hb); replace HO230 := ak (Kd.R_below (by exact (Kd.R_mono (Kd.R_far (p := ⟨gb231, 1, none⟩) (Kd.R_far (p := ⟨gb231, 0, none⟩) (Kd.R_types HO230.out BK231.out (by decide)) (fun _ hk => hk.2) (.int .i64 t227)) (fun _ hk => hk.2) (.slice Ao31 t228.length co31)) (fun _ h_ => h_.1))) hb); replace BK220 := ak (blk_below (g := gb220) (o := .cells #[.int .i64 a0_0, .slice A0_1 l0_1.length c0_1] 24 (0, 0)) (by refine blk_far ?_ NB220_231.out _; refine blk_far ?_ NB220_231.out _; exact BK220.out) hb); replace BK231 := ak (blk_below (g := gb231) (o := .cells #[.int .i64 t227, .slice Ao31 t228.length co31] 30 (0, 0)) (by refine blk_put (cs := #[.int .i64 t227, .slice none 0 0]) ?_ 1 _ rfl; refine blk_put (cs := #[.int .i64 0, .slice none 0 0]) ?_ 0 _ rfl; exact BK231.out) hb); replace HB := ak (below_step (bl2 HB GE220 GE231) hb); (try clear hb); (try clear hb2); (try clear hk); (try clear hi)))
 replace HO225 := ak (Kd.R_drew HO225.out)
 replace HO230 := ak (Kd.R_drew HO230.out)
 replace BK220 := ak (blk_drew BK220.out)
 replace BK231 := ak (blk_drew BK231.out)
 replace HB := ak (below_drew1 HB.out)
 refine start_ (n := 5) (S := fun w' => w'.cell? ⟨gb231, 0, none⟩ = some (.int .i64 t227) ∧ w'.cell? ⟨gb231, 1, none⟩ = some (.slice Ao31 t228.length co31) ∧ w'.cell? ⟨gb220, 0, none⟩ = some (.int .i64 a0_0) ∧ w'.cell? ⟨gb220, 1, none⟩ = some (.slice A0_1 l0_1.length c0_1)) (ds := []) #[false, false, false, false, false] (by kernel_rfl) rfl (by kernel_rfl) ⟨(blk_cell BK231.out 0).trans rfl, (blk_cell BK231.out 1).trans rfl, (blk_cell BK220.out 0).trans rfl, (blk_cell BK220.out 1).trans rfl⟩ (fun hHeld => ?_)
 generalize w32.drew = w33 at HO225 HO230 BK220 BK231 HB hHeld ⊢
 refine take_ (i := 0) (N := some 38) (v := ?_) (a' := ?_) #[true, false, false, false, false] rfl rfl (by kernel_rfl) (fun _ _ _ h => h) (Or.inl ⟨by rfl, ?_⟩) hHeld ?_ ?_
 rotate_left
 ·rintro w' ⟨s0, s1, s2, s3⟩
  go_simp
  with_reducible rfl
 rotate_left
 ·simp only [SX]
  rfl
 refine take_ (i := 1) (N := some 39) (v := ?_) (a' := ?_) #[true, true, false, false, false] rfl rfl (by kernel_rfl) (fun _ _ _ h => h) (Or.inl ⟨by rfl, ?_⟩) hHeld ?_ ?_
 rotate_left
 ·rintro w' ⟨s0, s1, s2, s3⟩
  go_simp
  with_reducible rfl
 rotate_left
 ·simp only [SX]
  rfl
 refine one_ (i := 2) (N := some 40) #[true, true, true, false, false] rfl rfl (by kernel_rfl) (by decide) (fun K hK => ?_)
 refine goes_ Try.func17 (by kernel_rfl) rfl #[.agg #[.int .i64 a0_0, .slice A0_1 l0_1.length c0_1]] (by rfl) rfl rfl (by (try simp only [List.map_toArray, List.map_cons, List.map_nil]); rfl) ?_
 with_reducible refine (laws_toNet.calls k a0_0 _ _ l0_1 t233 t234 _ ?side1 ?side2 A16.out).mono ?_
 (case side1 => repeat (exact (Kd.C_below HR0_1.out HB.out)))
 (case side2 => exact HC0_1.out)
 rintro e w34 ⟨v235, rfl, ho0, hb⟩
 refine ⟨_, rfl, ?_⟩
 have HO236 := ak (Kd.R_lower (Kd.R_new' (Kd.R_new' ho0 (Kd.R_lt (rk HO225))) (Kd.R_lt (rk HO230))) (below_size (bl2 HB GE220 GE231)))
 replace HO225 := ak (Kd.R_elder' (rk HO225) (Kd.R_base ho0) hb)
 replace HO230 := ak (Kd.R_elder' (rk HO230) (Kd.R_base ho0) hb)
 replace BK220 := ak (blk_below (bk BK220) hb)
 replace BK231 := ak (blk_below (bk BK231) hb)
 replace HB := ak (below_step (bl2 HB GE220 GE231) hb)
 (try clear hb)
 (try clear hb2)
 (try clear hk)
 (try clear hi)
 (try clear ho0)
 obtain ⟨Ao35, co35, eo35⟩ := Kd.R_slice HO236.out
 (subst eo35)
 refine hK.out _ _ ⟨(blk_cell BK231.out 0).trans rfl, (blk_cell BK231.out 1).trans rfl, (blk_cell BK220.out 0).trans rfl, (blk_cell BK220.out 1).trans rfl⟩ (fun hHeld => ?_)
 clear hK K
 refine norm_ (a' := ?_) ?_ ?_
 rotate_left
 ·show Act.put _ (some 40) _ = _
  simp only [SX]
  rfl
 refine one_ (i := 3) (N := some 41) #[true, true, true, true, false] rfl rfl (by kernel_rfl) (by decide) (fun K hK => ?_)
 refine goes_ Try.func20 (by kernel_rfl) rfl #[.agg #[.int .i64 t227, .slice Ao31 t228.length co31], .agg #[.int .i64 t233, .slice Ao35 t234.length co35]] (by rfl) rfl rfl (by (try simp only [List.map_toArray, List.map_cons, List.map_nil]); rfl) ?_
 with_reducible refine (laws_eqNet.calls k t227 _ _ t228 t233 _ _ t234 true _ ?side1 ?side2 ?side3 ?side4 A17.out).mono ?_
 (case side1 => repeat (exact (Kd.R_reads' HO230.out).2.2))
 (case side2 => exact (Kd.R_reads' HO230.out).2.1)
 (case side3 => repeat (exact (Kd.R_reads' HO236.out).2.2))
 (case side4 => exact (Kd.R_reads' HO236.out).2.1)
 rintro e w36 ⟨rfl, hb⟩
 refine ⟨_, rfl, ?_⟩
 replace HO225 := ak (Kd.R_below (rk HO225) hb)
 replace HO230 := ak (Kd.R_below (rk HO230) hb)
 replace HO236 := ak (Kd.R_below (rk HO236) hb)
 replace BK220 := ak (blk_below (bk BK220) hb)
 replace BK231 := ak (blk_below (bk BK231) hb)
 replace HB := ak (below_step (bl2 HB GE220 GE231) hb)
 (try clear hb)
 (try clear hb2)
 (try clear hk)
 (try clear hi)
 refine hK.out _ _ ⟨(blk_cell BK231.out 0).trans rfl, (blk_cell BK231.out 1).trans rfl, (blk_cell BK220.out 0).trans rfl, (blk_cell BK220.out 1).trans rfl⟩ (fun hHeld => ?_)
 clear hK K
 refine norm_ (a' := ?_) ?_ ?_
 rotate_left
 ·show Act.put _ (some 41) _ = _
  simp only [SX]
  rfl
 refine pure_ (i := 4) (N := some 42) (v := ?_) (a' := ?_) #[true, true, true, true, true] rfl rfl (by kernel_rfl) (fun _ _ _ h => h) (Or.inl ⟨by rfl, ?_⟩) ?_ ?_
 rotate_left
 ·intro w'
  go_simp
  with_reducible rfl
 rotate_left
 ·simp only [SX]
  rfl
 refine done_ (by kernel_rfl) ?_
 try go_wp2
 go_ret
 exact ⟨by rfl, bl2 HB GE220 GE231⟩
/-- THE ONE PURE STATEMENT of laws_FnExactPairSum. -/
def laws_FnExactPairSum.Pure : Prop := ∀ (a0_0 : Int) (l0_1 : List (S132)) (a1 : Int) (a2 : Int) (a3 : Int) (a4 : Int), (Lit.int .i64 a0_0).wf = true → (l0_1.length ≤ 9223372036854775807 ∧ ∀ y_ ∈ l0_1, ((Lit.int .i64 y_.f0).wf = true ∧ ((Lit.int .i64 y_.f1).wf = true ∧ ((Lit.int .i64 y_.f2).wf = true ∧ ((Lit.int .i64 y_.f3).wf = true ∧ ((Lit.int .i64 y_.f4).wf = true)))))) → (Lit.int .i64 a1).wf = true → (Lit.int .i64 a2).wf = true → (Lit.int .i64 a3).wf = true → (Lit.int .i64 a4).wf = true → ∃ k, laws_FnExactPairSum.f k a0_0 l0_1 a1 a2 a3 a4 = some true

end Go.Proofs.Ytbappbbljncdeaa.F
