-- Printed by wip/px/px.py of this claim's repository (the kit's printer, extended there). Lean checks it.
import Derived.Test.YtgickejeakmenaaFKinds
import Derived.Test.YtgickejeakmenaaFspecl30Open
import Derived.Test.YtgickejeakmenaaFspecl30Node
import Derived.Test.YtgickejeakmenaaFspecl30Live
namespace Go.Proofs.Ytgickejeakmenaa.F
open Go.RowKit Go.Proofs.YtgickejeakmenaaW.PrintWords Go.Proofs.YtgickejeakmenaaW.PrintLast Go.Proofs.YtgickejeakmenaaW.PrintMore
attribute [local go_sem] max2_int min2_int max_two min_two max_three min_three max_four min_four   -- for this text's walks alone
set_option linter.unusedVariables false
set_option linter.unusedSimpArgs false

/-! ### spec_DrawLiveNear: function 27 -/
def spec_DrawLiveNear.f (k : Nat) (l0 : List Int) : Option (Int × (List (S41)) × (List (S113)) × Int × Int) := (spec_l30Open.f l0).bind fun bt761 => ((spec_l30Live.f k bt761.1 bt761.2).bind fun bt764 => ((spec_l30Node.f k bt761.1 bt764.2.2.2 bt764.1 bt764.2.1).bind fun bt773 => ((spec_l30Node.f k bt761.1 bt773.2 bt764.1 bt764.2.1).bind fun bt775 => (some (bt764.1, bt764.2.1, bt764.2.2.1, bt773.1, bt775.1)))))
theorem spec_DrawLiveNear.mono : ∀ a0 k, LeO (spec_DrawLiveNear.f k a0) (spec_DrawLiveNear.f (k + 1) a0) := by
 intro a0 k
 unfold spec_DrawLiveNear.f
 repeat' first | (with_reducible exact spec_l30Live.mono _ _ _) | (with_reducible exact spec_l30Node.mono _ _ _ _ _) | (with_reducible exact LeO.refl _) | (with_reducible refine LeO.bind ?_ (fun _ => ?_))
def spec_DrawLiveNear.T4 : Bool × List (List Nat × List Nat) := (true, [([], []), ([], []), ([], []), ([], []), ([3], [3]), ([2, 4], [2, 4]), ([0, 5, 0], [0]), ([1, 6, 0, 1, 6], [1]), ([5, 7, 0, 1, 2, 3, 4, 5, 6, 7], [5])])
def spec_DrawLiveNear.B4 : List Nat := [0, 0, 0, 0, 8, 28, 61, 127, 255]
theorem spec_DrawLiveNear.tab4 : rtab .any (opsOf Try.f27 4) = spec_DrawLiveNear.T4 := by kernel_rfl
theorem spec_DrawLiveNear.bits4 : waitsOk spec_DrawLiveNear.T4.2 spec_DrawLiveNear.B4 = true := by kernel_rfl
set_option maxHeartbeats 8000000 in
set_option maxRecDepth 100000 in
theorem spec_DrawLiveNear.calls (k : Nat) (A0 : Option Addr) (c0 : Nat) (l0 : List Int) (r1 : Int) (r2 : List (S41)) (r3 : List (S113)) (r4 : Int) (r5 : Int) (w : World) (hr0 : Kd.C (Kd.int .u8) w A0 l0.length l0) (hc0 : l0.length ≤ c0) (h : spec_DrawLiveNear.f k l0 = some (r1, r2, r3, r4, r5)) :
  Calls Try.prog 27 #[.slice A0 l0.length c0] w fun e w' => ∃ v1_ v2_ : Value, e = .returned (.tuple #[.agg #[.int .i64 r1, v1_, v2_], .int .i64 r4, .int .i64 r5]) ∧ Kd.R k41 41 w' w.heap.size (fun _ => True) v1_ r2 ∧ Kd.R k113 113 w' w.heap.size (fun _ => True) v2_ r3 ∧ Below w.heap.size w w' := by
 have hu44 := Try.underlying44
 have hu25 := Try.underlying25
 have HR0 := ak hr0
 have HC0 := ak hc0
 clear hr0 hc0
 have HB := ak (Below.refl w.heap.size w)
 have H : ((spec_l30Open.f l0).bind fun bt761 => ((spec_l30Live.f k bt761.1 bt761.2).bind fun bt764 => ((spec_l30Node.f k bt761.1 bt764.2.2.2 bt764.1 bt764.2.1).bind fun bt773 => ((spec_l30Node.f k bt761.1 bt773.2 bt764.1 bt764.2.1).bind fun bt775 => (some (bt764.1, bt764.2.1, bt764.2.2.1, bt773.1, bt775.1)))))) = some (r1, r2, r3, r4, r5) := h
 clear h
 replace H := Option.bind_eq_some_iff.mp H
 obtain ⟨⟨t761, t762⟩, A20, H⟩ := H
 have A2 := ak A20
 clear A20
 replace H := Option.bind_eq_some_iff.mp H
 obtain ⟨⟨t764, t765, t768, t771⟩, A30, H⟩ := H
 have A3 := ak A30
 clear A30
 replace H := Option.bind_eq_some_iff.mp H
 obtain ⟨⟨t773, t774⟩, A40, H⟩ := H
 have A4 := ak A40
 clear A40
 replace H := Option.bind_eq_some_iff.mp H
 obtain ⟨⟨t775, t776⟩, A50, H⟩ := H
 have A5 := ak A50
 clear A50
 simp only [Option.some.injEq, Prod.mk.injEq] at H
 obtain ⟨rfl, rfl, rfl, rfl, rfl⟩ := H
 go_enter Try.func27, Try.ntmps27
 try go_wp2_with (first | ((with_reducible refine gate_dst (N := 2) rfl ?_); refine box_event ?hg (N := 2) ?hd (cs := #[.int .i64 0, .slice none 0 0, .slice none 0 0]) (t := 44) ?hr ?_; (case hd => rfl); (case hg => rfl); (case hr => (go_simp; done)); intro gb760 hg w6 hbox hb; have BK760 := ak (hbox); have GW760 := ak ((by rw [hg]; exact (below_size (bl HB)) : w.heap.size ≤ gb760)); have GE760 := ak ((by rw [hg]; exact (below_size (bl HB)) : w.heap.size ≤ gb760)); replace HB := ak (below_step (bl HB) hb); clear hb hbox hg) | ((with_reducible refine gate_callee (f := 49) rfl ?_); refine goesL_ (some 9) rfl rfl Try.func49 (by kernel_rfl) rfl #[.slice A0 l0.length c0] rfl (by (try simp only [List.map_toArray, List.map_cons, List.map_nil]); rfl) ?_; (with_reducible refine (spec_l30Open.calls _ _ l0 t761 t762 w _ ?side1 ?side2 ?side3 A2.out).mono ?_); (case side1 => repeat ((with_reducible exact HB.out))); (case side2 => exact HR0.out); (case side3 => exact HC0.out); rintro e w7 ⟨g763, rfl, hi, hb, hb2⟩; refine ⟨_, rfl, ?_⟩; replace HB := ak (hb); have HI763 := ak (hi); have NB763_760 := ak (IsS99.ne_blk hi (blk_below (bk BK760) hb2) (by decide)); have NB760_763 := ak (Ne.symm (IsS99.ne_blk hi (blk_below (bk BK760) hb2) (by decide))); replace BK760 := ak (blk_below (bk BK760) hb2); (try clear hb); (try clear hb2); (try clear hk); (try clear hi)) | ((with_reducible refine gate_callee (f := 70) rfl ?_); refine goesL_ (some 11) rfl rfl Try.func70 (by kernel_rfl) rfl #[.pointer (some ⟨g763, 0, none⟩)] rfl (by (try simp only [List.map_toArray, List.map_cons, List.map_nil]); rfl) ?_; (with_reducible refine (spec_l30Live.calls k g763 t761 t762 t764 t765 t768 t771 w _ ?side1 ?side2 A3.out).mono ?_); (case side1 => repeat ((with_reducible exact HI763.out))); (case side2 => repeat ((with_reducible exact HB.out))); rintro e w8 ⟨v766, v769, rfl, ho0, ho1, hi, hb, hk⟩; refine ⟨_, rfl, ?_⟩; replace BK760 := ak (KeepBut.blk hk (g' := gb760) (o := .cells #[.int .i64 0, .slice none 0 0, .slice none 0 0] 44 (0, 0)) (bk BK760) NB760_763.out (by simp)); have HO767 := ak (Kd.R_lower ho0 (below_size (by repeat ((with_reducible exact HB.out))))); have HO770 := ak (Kd.R_lower ho1 (below_size (by repeat ((with_reducible exact HB.out))))); replace HB := ak (hb); replace HI763 := ak (hi); (try clear hb); (try clear hb2); (try clear hk); (try clear hi); (try clear ho0); (try clear ho1)) | ((with_reducible refine gate_dst (N := 6) rfl ?_); refine box_event ?hg (N := 6) ?hd (cs := #[.int .i64 0, .slice none 0 0, .slice none 0 0]) (t := 44) ?hr ?_; (case hd => rfl); (case hg => rfl); (case hr => (go_simp; done)); intro gb772 hg w9 hbox hb; replace HO767 := ak (Kd.R_below (rk HO767) hb); replace HO770 := ak (Kd.R_below (rk HO770) hb); have BK772 := ak (hbox); have GW772 := ak ((by rw [hg]; exact (below_size (by repeat ((with_reducible exact HB.out)))) : w.heap.size ≤ gb772)); have GE772 := ak ((by rw [hg]; exact (below_size (by repeat ((with_reducible exact HB.out)))) : w.heap.size ≤ gb772)); replace HB := ak (below_step (by repeat ((with_reducible exact HB.out))) hb); have NB760_772 := ak ((by rw [hg]; exact Nat.ne_of_lt (blk_lt (bk BK760)) : gb760 ≠ gb772)); have NB772_760 := ak ((by rw [hg]; exact Nat.ne_of_gt (blk_lt (bk BK760)) : gb772 ≠ gb760)); replace BK760 := ak (blk_below (bk BK760) hb); have NB763_772 := ak ((by rw [hg]; exact Nat.ne_of_lt (IsS99.lt (show IsS99 w _ g763 t761 t771 from by repeat ((with_reducible exact HI763.out)))) : g763 ≠ gb772)); have NB772_763 := ak ((by rw [hg]; exact Nat.ne_of_gt (IsS99.lt (show IsS99 w _ g763 t761 t771 from by repeat ((with_reducible exact HI763.out)))) : gb772 ≠ g763)); replace HI763 := ak (IsS99.below (by repeat ((with_reducible exact HI763.out))) hb); clear hb hbox hg; have hnb10 := NB772_760.out; have hnc10 := NB760_772.out; have hnb11 := NB772_763.out; have hnc11 := NB763_772.out; have hcz12_0 := bc w9 BK772 0 (.int .i64 0) rfl; have hcz12_1 := bc w9 BK772 1 (.slice none 0 0) rfl; have hcz12_2 := bc w9 BK772 2 (.slice none 0 0) rfl; have hfz12_0 := fz BK772 0; have hfz12_1 := fz BK772 1; have hfz12_2 := fz BK772 2; obtain ⟨Ao13, co13, eo13⟩ := Kd.R_slice HO767.out; subst eo13; obtain ⟨Ao14, co14, eo14⟩ := Kd.R_slice HO770.out; subst eo14) | ((with_reducible refine gate_callee (f := 71) rfl ?_); refine goesL_ (some 15) rfl rfl Try.func71 (by kernel_rfl) rfl #[.pointer (some ⟨g763, 0, none⟩), .agg #[.int .i64 t764, .slice Ao13 t765.length co13]] rfl (by (try simp only [List.map_toArray, List.map_cons, List.map_nil]); rfl) ?_; (with_reducible refine (spec_l30Node.calls k g763 t761 t771 t764 _ _ t765 t773 t774 w _ ?side1 ?side2 ?side3 ?side4 A4.out).mono ?_); (case side1 => repeat ((with_reducible first | exact HI763.out | refine IsS99.far ?_ NB763_772.out _))); (case side2 => repeat ((with_reducible first | exact HB.out | refine below_set ?_ GE772.out))); (case side3 => exact Kd.C_foot_own (IsS99.apart (show IsS99 w _ g763 t761 t771 from by repeat ((with_reducible first | exact HI763.out | refine IsS99.far ?_ NB763_772.out _))) (by exact (Kd.R_mono (Kd.R_far (p := ⟨gb772, 2, none⟩) (Kd.R_far (p := ⟨gb772, 1, none⟩) (Kd.R_far (p := ⟨gb772, 0, none⟩) (Kd.R_types HO767.out BK772.out (by decide)) (fun _ hk => hk.2) (.int .i64 t764)) (fun _ hk => hk.2) (.slice Ao13 t765.length co13)) (fun _ hk => hk.2) (.slice Ao14 t768.length co14)) (fun _ h_ => h_.1))) (by decide)) (fun _ h_ => h_.2)); (case side4 => exact (Kd.R_reads' HO767.out).2.1); rintro e w15 ⟨rfl, hi, hb, hk⟩; refine ⟨_, rfl, ?_⟩; replace BK760 := ak (KeepBut.blk hk (g' := gb760) (o := .cells #[.int .i64 0, .slice none 0 0, .slice none 0 0] 44 (0, 0)) (by refine blk_far ?_ NB760_772.out _; refine blk_far ?_ NB760_772.out _; refine blk_far ?_ NB760_772.out _; exact BK760.out) NB760_763.out (by simp)); replace HO767 := ak (Kd.R_mono (Kd.R_keep (IsS99.apart (show IsS99 w _ g763 t761 t771 from by repeat ((with_reducible first | exact HI763.out | refine IsS99.far ?_ NB763_772.out _))) (by exact (Kd.R_mono (Kd.R_far (p := ⟨gb772, 2, none⟩) (Kd.R_far (p := ⟨gb772, 1, none⟩) (Kd.R_far (p := ⟨gb772, 0, none⟩) (Kd.R_types HO767.out BK772.out (by decide)) (fun _ hk => hk.2) (.int .i64 t764)) (fun _ hk => hk.2) (.slice Ao13 t765.length co13)) (fun _ hk => hk.2) (.slice Ao14 t768.length co14)) (fun _ h_ => h_.1))) (by decide)) hk (fun _ h => h.2)) (fun _ h => h.1)); replace HO770 := ak (Kd.R_mono (Kd.R_keep (IsS99.apart (show IsS99 w _ g763 t761 t771 from by repeat ((with_reducible first | exact HI763.out | refine IsS99.far ?_ NB763_772.out _))) (by exact (Kd.R_mono (Kd.R_far (p := ⟨gb772, 2, none⟩) (Kd.R_far (p := ⟨gb772, 1, none⟩) (Kd.R_far (p := ⟨gb772, 0, none⟩) (Kd.R_types HO770.out BK772.out (by decide)) (fun _ hk => hk.2) (.int .i64 t764)) (fun _ hk => hk.2) (.slice Ao13 t765.length co13)) (fun _ hk => hk.2) (.slice Ao14 t768.length co14)) (fun _ h_ => h_.1))) (by decide)) hk (fun _ h => h.2)) (fun _ h => h.1)); replace BK772 := ak (KeepBut.blk hk (g' := gb772) (o := .cells #[.int .i64 t764, .slice Ao13 t765.length co13, .slice Ao14 t768.length co14] 44 (0, 0)) (by refine blk_put (cs := #[.int .i64 t764, .slice Ao13 t765.length co13, .slice none 0 0]) ?_ 2 _ rfl; refine blk_put (cs := #[.int .i64 t764, .slice none 0 0, .slice none 0 0]) ?_ 1 _ rfl; refine blk_put (cs := #[.int .i64 0, .slice none 0 0, .slice none 0 0]) ?_ 0 _ rfl; exact BK772.out) NB772_763.out (by simp)); replace HB := ak (hb); replace HI763 := ak (hi); (try clear hb); (try clear hb2); (try clear hk); (try clear hi)))
 replace HO767 := ak (Kd.R_drew HO767.out)
 replace HO770 := ak (Kd.R_drew HO770.out)
 replace BK760 := ak (blk_drew BK760.out)
 replace BK772 := ak (blk_drew BK772.out)
 replace HI763 := ak (IsS99.drew HI763.out)
 replace HB := ak (below_drew1 HB.out)
 refine start_ (n := 9) (S := fun w' => w'.cell? ⟨gb772, 0, none⟩ = some (.int .i64 t764) ∧ w'.cell? ⟨gb772, 1, none⟩ = some (.slice Ao13 t765.length co13) ∧ w'.cell? ⟨gb772, 2, none⟩ = some (.slice Ao14 t768.length co14)) (ds := []) (ms 9 0) (by kernel_rfl) rfl (by kernel_rfl) ⟨(blk_cell BK772.out 0).trans rfl, (blk_cell BK772.out 1).trans rfl, (blk_cell BK772.out 2).trans rfl⟩ (fun hHeld => ?_); refine with_tabW spec_DrawLiveNear.tab4 spec_DrawLiveNear.bits4 (fun HT_ HW_ => ?_)
 generalize w15.drew = w16 at HO767 HO770 BK760 BK772 HI763 HB hHeld ⊢
 refine pu 1 17 ?_ (ms 9 2) rfl rfl HT_ (by kernel_rfl) (fun _ _ _ h => h) (by rfl) ?_ ?_ ?_ ?_
 rotate_left
 ·intro w'
  go_simp
  with_reducible rfl
 rotate_left
 ·simp only [SX]
  rfl
 refine pu 2 18 ?_ (ms 9 6) rfl rfl HT_ (by kernel_rfl) (fun _ _ _ h => h) (by rfl) ?_ ?_ ?_ ?_
 rotate_left
 ·intro w'
  go_simp
  with_reducible rfl
 rotate_left
 ·simp only [SX]
  rfl
 refine pu 3 19 ?_ (ms 9 14) rfl rfl HT_ (by kernel_rfl) (fun _ _ _ h => h) (by rfl) ?_ ?_ ?_ ?_
 rotate_left
 ·intro w'
  go_simp
  with_reducible rfl
 rotate_left
 ·simp only [SX]
  rfl
 refine tk 0 16 ?_ (ms 9 15) rfl rfl HT_ HW_ (by kernel_rfl) (fun _ _ _ h => h) (by rfl) ?_ hHeld ?_ ?_ ?_
 rotate_left
 ·rintro w' ⟨s0, s1, s2⟩
  go_simp
  with_reducible rfl
 rotate_left
 ·simp only [SX]
  rfl
 refine tk 4 20 ?_ (ms 9 31) rfl rfl HT_ HW_ (by kernel_rfl) (fun _ _ _ h => h) (by rfl) ?_ hHeld ?_ ?_ ?_
 rotate_left
 ·rintro w' ⟨s0, s1, s2⟩
  go_simp
  with_reducible rfl
 rotate_left
 ·simp only [SX]
  rfl
 refine one_ (i := 5) (N := some 21) (ms 9 63) rfl rfl (one_of HT_.out (by kernel_rfl)) (by decide) (fun K hK => ?_)
 refine goes_ Try.func71 (by kernel_rfl) rfl #[.pointer (some ⟨g763, 0, none⟩), .agg #[.int .i64 t764, .slice Ao13 t765.length co13]] (by rfl) rfl rfl (by (try simp only [List.map_toArray, List.map_cons, List.map_nil]); rfl) ?_
 with_reducible refine (spec_l30Node.calls k g763 t761 t774 t764 _ _ t765 t775 t776 w _ ?side1 ?side2 ?side3 ?side4 A5.out).mono ?_
 (case side1 => repeat ((with_reducible exact HI763.out)))
 (case side2 => repeat ((with_reducible exact HB.out)))
 (case side3 => exact Kd.C_foot_own (IsS99.apart (show IsS99 w _ g763 t761 t774 from by repeat ((with_reducible exact HI763.out))) (rk HO767) (by decide)) (fun _ h_ => h_.2))
 (case side4 => exact (Kd.R_reads' HO767.out).2.1)
 rintro e w17 ⟨rfl, hi, hb, hk⟩
 refine ⟨_, rfl, ?_⟩
 replace BK760 := ak (KeepBut.blk hk (g' := gb760) (o := .cells #[.int .i64 0, .slice none 0 0, .slice none 0 0] 44 (0, 0)) (bk BK760) NB760_763.out (by simp))
 replace HO767 := ak (Kd.R_mono (Kd.R_keep (IsS99.apart (show IsS99 w _ g763 t761 t774 from by repeat ((with_reducible exact HI763.out))) (rk HO767) (by decide)) hk (fun _ h => h.2)) (fun _ h => h.1))
 replace HO770 := ak (Kd.R_mono (Kd.R_keep (IsS99.apart (show IsS99 w _ g763 t761 t774 from by repeat ((with_reducible exact HI763.out))) (rk HO770) (by decide)) hk (fun _ h => h.2)) (fun _ h => h.1))
 replace BK772 := ak (KeepBut.blk hk (g' := gb772) (o := .cells #[.int .i64 t764, .slice Ao13 t765.length co13, .slice Ao14 t768.length co14] 44 (0, 0)) (bk BK772) NB772_763.out (by simp))
 replace HB := ak (hb)
 replace HI763 := ak (hi)
 (try clear hb)
 (try clear hb2)
 (try clear hk)
 (try clear hi)
 refine hK.out _ _ ⟨(blk_cell BK772.out 0).trans rfl, (blk_cell BK772.out 1).trans rfl, (blk_cell BK772.out 2).trans rfl⟩ (fun hHeld => ?_)
 clear hK K
 refine norm_ (a' := ?_) ?_ ?_
 rotate_left
 ·show Act.put _ (some 21) _ = _
  simp only [SX]
  rfl
 refine one_ (i := 6) (N := none) (ms 9 127) rfl rfl (one_of HT_.out (by kernel_rfl)) (by decide) (fun K hK => ?_)
 have hs18 : w17.cell? ⟨gb760, 0, none⟩ = some (.int .i64 0) := (blk_cell BK760.out 0).trans rfl
 have hfs18 := blk_frozen BK760.out 0
 have hns18_1 := NB772_760.out
 have hms18_1 := NB760_772.out
 have hs19 : w17.cell? ⟨gb760, 1, none⟩ = some (.slice none 0 0) := (blk_cell BK760.out 1).trans rfl
 have hfs19 := blk_frozen BK760.out 1
 have hns19_1 := NB772_760.out
 have hms19_1 := NB760_772.out
 have hs20 : w17.cell? ⟨gb760, 2, none⟩ = some (.slice none 0 0) := (blk_cell BK760.out 2).trans rfl
 have hfs20 := blk_frozen BK760.out 2
 have hns20_1 := NB772_760.out
 have hms20_1 := NB760_772.out
 refine skip_ (w1 := ?_) (by rfl) rfl ?_ ?_
 rotate_left
 ·go_simp
  rfl
 refine hK.out _ _ ⟨((cell_far (p := ⟨gb760, _, none⟩) NB772_760.out _).trans (((cell_far (p := ⟨gb760, _, none⟩) NB772_760.out _).trans (((cell_far (p := ⟨gb760, _, none⟩) NB772_760.out _).trans (hHeld.1)))))), ((cell_far (p := ⟨gb760, _, none⟩) NB772_760.out _).trans (((cell_far (p := ⟨gb760, _, none⟩) NB772_760.out _).trans (((cell_far (p := ⟨gb760, _, none⟩) NB772_760.out _).trans (hHeld.2.1)))))), ((cell_far (p := ⟨gb760, _, none⟩) NB772_760.out _).trans (((cell_far (p := ⟨gb760, _, none⟩) NB772_760.out _).trans (((cell_far (p := ⟨gb760, _, none⟩) NB772_760.out _).trans (hHeld.2.2))))))⟩ (fun hHeld => ?_)
 clear hK K
 refine pu 7 3 ?_ (ms 9 255) rfl rfl HT_ (by kernel_rfl) (fun _ _ _ h => h) (by rfl) ?_ ?_ ?_ ?_
 rotate_left
 ·intro w'
  go_simp
  with_reducible rfl
 rotate_left
 ·simp only [SX]
  rfl
 refine pu 8 4 ?_ (ms 9 511) rfl rfl HT_ (by kernel_rfl) (fun _ _ _ h => h) (by rfl) ?_ ?_ ?_ ?_
 rotate_left
 ·intro w'
  go_simp
  with_reducible rfl
 rotate_left
 ·simp only [SX]
  rfl
 refine done_ (done_of HT_.out (by kernel_rfl)) ?_
 try go_wp2
 refine bodyPost_ret (results_ctt rfl _ _ gb760 44 #[.int .i64 t764, .slice Ao13 t765.length co13, .slice Ao14 t768.length co14] (0, 0) _ rfl (by refine blk_put (cs := #[.int .i64 t764, .slice Ao13 t765.length co13, .slice none 0 0]) ?_ 2 _ rfl; refine blk_put (cs := #[.int .i64 t764, .slice none 0 0, .slice none 0 0]) ?_ 1 _ rfl; refine blk_put (cs := #[.int .i64 0, .slice none 0 0, .slice none 0 0]) ?_ 0 _ rfl; exact BK760.out) Try.underlying44 rfl (by kernel_rfl)) rfl ?_
 exact ⟨_, _, by rfl, by exact Kd.R_mono (Kd.R_far (p := ⟨gb760, 2, none⟩) (Kd.R_far (p := ⟨gb760, 1, none⟩) (Kd.R_far (p := ⟨gb760, 0, none⟩) (Kd.R_types HO767.out BK760.out (by decide)) (fun _ hk => hk.2) (.int .i64 t764)) (fun _ hk => hk.2) (.slice Ao13 t765.length co13)) (fun _ hk => hk.2) (.slice Ao14 t768.length co14)) (fun _ hk => trivial), by exact Kd.R_mono (Kd.R_far (p := ⟨gb760, 2, none⟩) (Kd.R_far (p := ⟨gb760, 1, none⟩) (Kd.R_far (p := ⟨gb760, 0, none⟩) (Kd.R_types HO770.out BK760.out (by decide)) (fun _ hk => hk.2) (.int .i64 t764)) (fun _ hk => hk.2) (.slice Ao13 t765.length co13)) (fun _ hk => hk.2) (.slice Ao14 t768.length co14)) (fun _ hk => trivial), by repeat ((with_reducible first | exact HB.out | refine below_set ?_ GE760.out))⟩

end Go.Proofs.Ytgickejeakmenaa.F
