-- Printed by wip/px/px.py of this claim's repository (the kit's printer, extended there). Lean checks it.
import Derived.Test.YtjnbhieppghidaaFKinds
import Derived.Test.YtjnbhieppghidaaFspecl30Open
import Derived.Test.YtjnbhieppghidaaFspecl30AnyNet
import Derived.Test.YtjnbhieppghidaaFspecl30Node
namespace Go.Proofs.Ytjnbhieppghidaa.F
open Go.RowKit Go.Proofs.YtjnbhieppghidaaW.PrintWords Go.Proofs.YtjnbhieppghidaaW.PrintLast Go.Proofs.YtjnbhieppghidaaW.PrintMore
attribute [local go_sem] max2_int min2_int max_two min_two max_three min_three max_four min_four   -- for this text's walks alone
set_option linter.unusedVariables false
set_option linter.unusedSimpArgs false

/-! ### spec_DrawNearWalk: function 4 -/
def spec_DrawNearWalk.f (k : Nat) (l0 : List Int) : Option (Int × (List (S60)) × Int × Int) := (spec_l30Open.f l0).bind fun bt181 => ((spec_l30AnyNet.f k bt181.1 bt181.2).bind fun bt184 => ((spec_l30Node.f k bt181.1 bt184.2.2 bt184.1 bt184.2.1).bind fun bt190 => ((spec_l30Node.f k bt181.1 bt190.2 bt184.1 bt184.2.1).bind fun bt192 => (some (bt184.1, bt184.2.1, bt190.1, bt192.1)))))
theorem spec_DrawNearWalk.mono : ∀ a0 k, LeO (spec_DrawNearWalk.f k a0) (spec_DrawNearWalk.f (k + 1) a0) := by
 intro a0 k
 unfold spec_DrawNearWalk.f
 repeat' first | (with_reducible exact spec_l30AnyNet.mono _ _ _) | (with_reducible exact spec_l30Node.mono _ _ _ _ _) | (with_reducible exact LeO.refl _) | (with_reducible refine LeO.bind ?_ (fun _ => ?_))
def spec_DrawNearWalk.T4 : Bool × List (List Nat × List Nat) := (true, [([], []), ([], []), ([], []), ([], []), ([2, 3], [2, 3]), ([0, 4, 0], [0]), ([1, 5, 0, 1, 5], [1]), ([4, 6, 0, 1, 2, 3, 4, 5, 6], [4])])
def spec_DrawNearWalk.B4 : List Nat := [0, 0, 0, 0, 12, 29, 63, 127]
theorem spec_DrawNearWalk.tab4 : rtab .any (opsOf Try.f4 4) = spec_DrawNearWalk.T4 := by kernel_rfl
theorem spec_DrawNearWalk.bits4 : waitsOk spec_DrawNearWalk.T4.2 spec_DrawNearWalk.B4 = true := by kernel_rfl
set_option maxHeartbeats 8000000 in
set_option maxRecDepth 100000 in
theorem spec_DrawNearWalk.calls (k : Nat) (A0 : Option Addr) (c0 : Nat) (l0 : List Int) (r1 : Int) (r2 : List (S60)) (r3 : Int) (r4 : Int) (w : World) (hr0 : Kd.C (Kd.int .u8) w A0 l0.length l0) (hc0 : l0.length ≤ c0) (h : spec_DrawNearWalk.f k l0 = some (r1, r2, r3, r4)) :
  Calls Try.prog 4 #[.slice A0 l0.length c0] w fun e w' => ∃ v1_ : Value, e = .returned (.tuple #[.agg #[.int .i64 r1, v1_], .int .i64 r3, .int .i64 r4]) ∧ Kd.R k60 60 w' w.heap.size (fun _ => True) v1_ r2 ∧ Below w.heap.size w w' := by
 have hu25 := Try.underlying25
 have HR0 := ak hr0
 have HC0 := ak hc0
 clear hr0 hc0
 have HB := ak (Below.refl w.heap.size w)
 have H : ((spec_l30Open.f l0).bind fun bt181 => ((spec_l30AnyNet.f k bt181.1 bt181.2).bind fun bt184 => ((spec_l30Node.f k bt181.1 bt184.2.2 bt184.1 bt184.2.1).bind fun bt190 => ((spec_l30Node.f k bt181.1 bt190.2 bt184.1 bt184.2.1).bind fun bt192 => (some (bt184.1, bt184.2.1, bt190.1, bt192.1)))))) = some (r1, r2, r3, r4) := h
 clear h
 replace H := Option.bind_eq_some_iff.mp H
 obtain ⟨⟨t181, t182⟩, A20, H⟩ := H
 have A2 := ak A20
 clear A20
 replace H := Option.bind_eq_some_iff.mp H
 obtain ⟨⟨t184, t185, t188⟩, A30, H⟩ := H
 have A3 := ak A30
 clear A30
 replace H := Option.bind_eq_some_iff.mp H
 obtain ⟨⟨t190, t191⟩, A40, H⟩ := H
 have A4 := ak A40
 clear A40
 replace H := Option.bind_eq_some_iff.mp H
 obtain ⟨⟨t192, t193⟩, A50, H⟩ := H
 have A5 := ak A50
 clear A50
 simp only [Option.some.injEq, Prod.mk.injEq] at H
 obtain ⟨rfl, rfl, rfl, rfl⟩ := H
 go_enter Try.func4, Try.ntmps4
 try go_wp2_with (first | ((with_reducible refine gate_dst (N := 2) rfl ?_); refine box_event ?hg (N := 2) ?hd (cs := #[.int .i64 0, .slice none 0 0]) (t := 25) ?hr ?_; (case hd => rfl); (case hg => rfl); (case hr => (go_simp; done)); intro gb180 hg w6 hbox hb; have BK180 := ak (hbox); have GW180 := ak ((by rw [hg]; exact (below_size (bl HB)) : w.heap.size ≤ gb180)); have GE180 := ak ((by rw [hg]; exact (below_size (bl HB)) : w.heap.size ≤ gb180)); replace HB := ak (below_step (bl HB) hb); clear hb hbox hg) | ((with_reducible refine gate_callee (f := 12) rfl ?_); refine goesL_ (some 9) rfl rfl Try.func12 (by kernel_rfl) rfl #[.slice A0 l0.length c0] rfl (by (try simp only [List.map_toArray, List.map_cons, List.map_nil]); rfl) ?_; (with_reducible refine (spec_l30Open.calls _ _ l0 t181 t182 w _ ?side1 ?side2 ?side3 A2.out).mono ?_); (case side1 => repeat ((with_reducible exact HB.out))); (case side2 => exact HR0.out); (case side3 => exact HC0.out); rintro e w7 ⟨g183, rfl, hi, hb, hb2⟩; refine ⟨_, rfl, ?_⟩; replace HB := ak (hb); have HI183 := ak (hi); have NB183_180 := ak (IsS57.ne_blk hi (blk_below (bk BK180) hb2) (by decide)); have NB180_183 := ak (Ne.symm (IsS57.ne_blk hi (blk_below (bk BK180) hb2) (by decide))); replace BK180 := ak (blk_below (bk BK180) hb2); (try clear hb); (try clear hb2); (try clear hk); (try clear hi)) | ((with_reducible refine gate_callee (f := 13) rfl ?_); refine goesL_ (some 11) rfl rfl Try.func13 (by kernel_rfl) rfl #[.pointer (some ⟨g183, 0, none⟩)] rfl (by (try simp only [List.map_toArray, List.map_cons, List.map_nil]); rfl) ?_; (with_reducible refine (spec_l30AnyNet.calls k g183 t181 t182 t184 t185 t188 w _ ?side1 ?side2 A3.out).mono ?_); (case side1 => repeat ((with_reducible exact HI183.out))); (case side2 => repeat ((with_reducible exact HB.out))); rintro e w8 ⟨v186, rfl, ho0, hi, hb, hk⟩; refine ⟨_, rfl, ?_⟩; replace BK180 := ak (KeepBut.blk hk (g' := gb180) (o := .cells #[.int .i64 0, .slice none 0 0] 25 (0, 0)) (bk BK180) NB180_183.out (by simp)); have HO187 := ak (Kd.R_lower ho0 (below_size (by repeat ((with_reducible exact HB.out))))); replace HB := ak (hb); replace HI183 := ak (hi); (try clear hb); (try clear hb2); (try clear hk); (try clear hi); (try clear ho0)) | ((with_reducible refine gate_dst (N := 6) rfl ?_); refine box_event ?hg (N := 6) ?hd (cs := #[.int .i64 0, .slice none 0 0]) (t := 25) ?hr ?_; (case hd => rfl); (case hg => rfl); (case hr => (go_simp; done)); intro gb189 hg w9 hbox hb; replace HO187 := ak (Kd.R_below (rk HO187) hb); have BK189 := ak (hbox); have GW189 := ak ((by rw [hg]; exact (below_size (by repeat ((with_reducible exact HB.out)))) : w.heap.size ≤ gb189)); have GE189 := ak ((by rw [hg]; exact (below_size (by repeat ((with_reducible exact HB.out)))) : w.heap.size ≤ gb189)); replace HB := ak (below_step (by repeat ((with_reducible exact HB.out))) hb); have NB180_189 := ak ((by rw [hg]; exact Nat.ne_of_lt (blk_lt (bk BK180)) : gb180 ≠ gb189)); have NB189_180 := ak ((by rw [hg]; exact Nat.ne_of_gt (blk_lt (bk BK180)) : gb189 ≠ gb180)); replace BK180 := ak (blk_below (bk BK180) hb); have NB183_189 := ak ((by rw [hg]; exact Nat.ne_of_lt (IsS57.lt (show IsS57 w _ g183 t181 t188 from by repeat ((with_reducible exact HI183.out)))) : g183 ≠ gb189)); have NB189_183 := ak ((by rw [hg]; exact Nat.ne_of_gt (IsS57.lt (show IsS57 w _ g183 t181 t188 from by repeat ((with_reducible exact HI183.out)))) : gb189 ≠ g183)); replace HI183 := ak (IsS57.below (by repeat ((with_reducible exact HI183.out))) hb); clear hb hbox hg; have hnb10 := NB189_180.out; have hnc10 := NB180_189.out; have hnb11 := NB189_183.out; have hnc11 := NB183_189.out; have hcz12_0 := bc w9 BK189 0 (.int .i64 0) rfl; have hcz12_1 := bc w9 BK189 1 (.slice none 0 0) rfl; have hfz12_0 := fz BK189 0; have hfz12_1 := fz BK189 1; obtain ⟨Ao13, co13, eo13⟩ := Kd.R_slice HO187.out; subst eo13) | ((with_reducible refine gate_callee (f := 14) rfl ?_); refine goesL_ (some 14) rfl rfl Try.func14 (by kernel_rfl) rfl #[.pointer (some ⟨g183, 0, none⟩), .agg #[.int .i64 t184, .slice Ao13 t185.length co13]] rfl (by (try simp only [List.map_toArray, List.map_cons, List.map_nil]); rfl) ?_; (with_reducible refine (spec_l30Node.calls k g183 t181 t188 t184 _ _ t185 t190 t191 w _ ?side1 ?side2 ?side3 ?side4 A4.out).mono ?_); (case side1 => repeat ((with_reducible first | exact HI183.out | refine IsS57.far ?_ NB183_189.out _))); (case side2 => repeat ((with_reducible first | exact HB.out | refine below_set ?_ GE189.out))); (case side3 => exact Kd.C_foot_own (IsS57.apart (show IsS57 w _ g183 t181 t188 from by repeat ((with_reducible first | exact HI183.out | refine IsS57.far ?_ NB183_189.out _))) (by exact (Kd.R_mono (Kd.R_far (p := ⟨gb189, 1, none⟩) (Kd.R_far (p := ⟨gb189, 0, none⟩) (Kd.R_types HO187.out BK189.out (by decide)) (fun _ hk => hk.2) (.int .i64 t184)) (fun _ hk => hk.2) (.slice Ao13 t185.length co13)) (fun _ h_ => h_.1))) (by decide)) (fun _ h_ => h_.2)); (case side4 => exact (Kd.R_reads' HO187.out).2.1); rintro e w14 ⟨rfl, hi, hb, hk⟩; refine ⟨_, rfl, ?_⟩; replace BK180 := ak (KeepBut.blk hk (g' := gb180) (o := .cells #[.int .i64 0, .slice none 0 0] 25 (0, 0)) (by refine blk_far ?_ NB180_189.out _; refine blk_far ?_ NB180_189.out _; exact BK180.out) NB180_183.out (by simp)); replace HO187 := ak (Kd.R_mono (Kd.R_keep (IsS57.apart (show IsS57 w _ g183 t181 t188 from by repeat ((with_reducible first | exact HI183.out | refine IsS57.far ?_ NB183_189.out _))) (by exact (Kd.R_mono (Kd.R_far (p := ⟨gb189, 1, none⟩) (Kd.R_far (p := ⟨gb189, 0, none⟩) (Kd.R_types HO187.out BK189.out (by decide)) (fun _ hk => hk.2) (.int .i64 t184)) (fun _ hk => hk.2) (.slice Ao13 t185.length co13)) (fun _ h_ => h_.1))) (by decide)) hk (fun _ h => h.2)) (fun _ h => h.1)); replace BK189 := ak (KeepBut.blk hk (g' := gb189) (o := .cells #[.int .i64 t184, .slice Ao13 t185.length co13] 25 (0, 0)) (by refine blk_put (cs := #[.int .i64 t184, .slice none 0 0]) ?_ 1 _ rfl; refine blk_put (cs := #[.int .i64 0, .slice none 0 0]) ?_ 0 _ rfl; exact BK189.out) NB189_183.out (by simp)); replace HB := ak (hb); replace HI183 := ak (hi); (try clear hb); (try clear hb2); (try clear hk); (try clear hi)))
 replace HO187 := ak (Kd.R_drew HO187.out)
 replace BK180 := ak (blk_drew BK180.out)
 replace BK189 := ak (blk_drew BK189.out)
 replace HI183 := ak (IsS57.drew HI183.out)
 replace HB := ak (below_drew1 HB.out)
 refine start_ (n := 8) (S := fun w' => w'.cell? ⟨gb189, 0, none⟩ = some (.int .i64 t184) ∧ w'.cell? ⟨gb189, 1, none⟩ = some (.slice Ao13 t185.length co13)) (ds := []) (ms 8 0) (by kernel_rfl) rfl (by kernel_rfl) ⟨(blk_cell BK189.out 0).trans rfl, (blk_cell BK189.out 1).trans rfl⟩ (fun hHeld => ?_); refine with_tabW spec_DrawNearWalk.tab4 spec_DrawNearWalk.bits4 (fun HT_ HW_ => ?_)
 generalize w14.drew = w15 at HO187 BK180 BK189 HI183 HB hHeld ⊢
 refine pu 1 16 ?_ (ms 8 2) rfl rfl HT_ (by kernel_rfl) (fun _ _ _ h => h) (by rfl) ?_ ?_ ?_ ?_
 rotate_left
 ·intro w'
  go_simp
  with_reducible rfl
 rotate_left
 ·simp only [SX]
  rfl
 refine pu 2 17 ?_ (ms 8 6) rfl rfl HT_ (by kernel_rfl) (fun _ _ _ h => h) (by rfl) ?_ ?_ ?_ ?_
 rotate_left
 ·intro w'
  go_simp
  with_reducible rfl
 rotate_left
 ·simp only [SX]
  rfl
 refine tk 0 15 ?_ (ms 8 7) rfl rfl HT_ HW_ (by kernel_rfl) (fun _ _ _ h => h) (by rfl) ?_ hHeld ?_ ?_ ?_
 rotate_left
 ·rintro w' ⟨s0, s1⟩
  go_simp
  with_reducible rfl
 rotate_left
 ·simp only [SX]
  rfl
 refine tk 3 18 ?_ (ms 8 15) rfl rfl HT_ HW_ (by kernel_rfl) (fun _ _ _ h => h) (by rfl) ?_ hHeld ?_ ?_ ?_
 rotate_left
 ·rintro w' ⟨s0, s1⟩
  go_simp
  with_reducible rfl
 rotate_left
 ·simp only [SX]
  rfl
 refine one_ (i := 4) (N := some 19) (ms 8 31) rfl rfl (one_of HT_.out (by kernel_rfl)) (by decide) (fun K hK => ?_)
 refine goes_ Try.func14 (by kernel_rfl) rfl #[.pointer (some ⟨g183, 0, none⟩), .agg #[.int .i64 t184, .slice Ao13 t185.length co13]] (by rfl) rfl rfl (by (try simp only [List.map_toArray, List.map_cons, List.map_nil]); rfl) ?_
 with_reducible refine (spec_l30Node.calls k g183 t181 t191 t184 _ _ t185 t192 t193 w _ ?side1 ?side2 ?side3 ?side4 A5.out).mono ?_
 (case side1 => repeat ((with_reducible exact HI183.out)))
 (case side2 => repeat ((with_reducible exact HB.out)))
 (case side3 => exact Kd.C_foot_own (IsS57.apart (show IsS57 w _ g183 t181 t191 from by repeat ((with_reducible exact HI183.out))) (rk HO187) (by decide)) (fun _ h_ => h_.2))
 (case side4 => exact (Kd.R_reads' HO187.out).2.1)
 rintro e w16 ⟨rfl, hi, hb, hk⟩
 refine ⟨_, rfl, ?_⟩
 replace BK180 := ak (KeepBut.blk hk (g' := gb180) (o := .cells #[.int .i64 0, .slice none 0 0] 25 (0, 0)) (bk BK180) NB180_183.out (by simp))
 replace HO187 := ak (Kd.R_mono (Kd.R_keep (IsS57.apart (show IsS57 w _ g183 t181 t191 from by repeat ((with_reducible exact HI183.out))) (rk HO187) (by decide)) hk (fun _ h => h.2)) (fun _ h => h.1))
 replace BK189 := ak (KeepBut.blk hk (g' := gb189) (o := .cells #[.int .i64 t184, .slice Ao13 t185.length co13] 25 (0, 0)) (bk BK189) NB189_183.out (by simp))
 replace HB := ak (hb)
 replace HI183 := ak (hi)
 (try clear hb)
 (try clear hb2)
 (try clear hk)
 (try clear hi)
 refine hK.out _ _ ⟨(blk_cell BK189.out 0).trans rfl, (blk_cell BK189.out 1).trans rfl⟩ (fun hHeld => ?_)
 clear hK K
 refine norm_ (a' := ?_) ?_ ?_
 rotate_left
 ·show Act.put _ (some 19) _ = _
  simp only [SX]
  rfl
 refine one_ (i := 5) (N := none) (ms 8 63) rfl rfl (one_of HT_.out (by kernel_rfl)) (by decide) (fun K hK => ?_)
 have hs17 : w16.cell? ⟨gb180, 0, none⟩ = some (.int .i64 0) := (blk_cell BK180.out 0).trans rfl
 have hfs17 := blk_frozen BK180.out 0
 have hns17_1 := NB189_180.out
 have hms17_1 := NB180_189.out
 have hs18 : w16.cell? ⟨gb180, 1, none⟩ = some (.slice none 0 0) := (blk_cell BK180.out 1).trans rfl
 have hfs18 := blk_frozen BK180.out 1
 have hns18_1 := NB189_180.out
 have hms18_1 := NB180_189.out
 refine skip_ (w1 := ?_) (by rfl) rfl ?_ ?_
 rotate_left
 ·go_simp
  rfl
 refine hK.out _ _ ⟨((cell_far (p := ⟨gb180, _, none⟩) NB189_180.out _).trans (((cell_far (p := ⟨gb180, _, none⟩) NB189_180.out _).trans (hHeld.1)))), ((cell_far (p := ⟨gb180, _, none⟩) NB189_180.out _).trans (((cell_far (p := ⟨gb180, _, none⟩) NB189_180.out _).trans (hHeld.2))))⟩ (fun hHeld => ?_)
 clear hK K
 refine pu 6 3 ?_ (ms 8 127) rfl rfl HT_ (by kernel_rfl) (fun _ _ _ h => h) (by rfl) ?_ ?_ ?_ ?_
 rotate_left
 ·intro w'
  go_simp
  with_reducible rfl
 rotate_left
 ·simp only [SX]
  rfl
 refine pu 7 4 ?_ (ms 8 255) rfl rfl HT_ (by kernel_rfl) (fun _ _ _ h => h) (by rfl) ?_ ?_ ?_ ?_
 rotate_left
 ·intro w'
  go_simp
  with_reducible rfl
 rotate_left
 ·simp only [SX]
  rfl
 refine done_ (done_of HT_.out (by kernel_rfl)) ?_
 try go_wp2
 refine bodyPost_ret (results_ctt rfl _ _ gb180 25 #[.int .i64 t184, .slice Ao13 t185.length co13] (0, 0) _ rfl (by refine blk_put (cs := #[.int .i64 t184, .slice none 0 0]) ?_ 1 _ rfl; refine blk_put (cs := #[.int .i64 0, .slice none 0 0]) ?_ 0 _ rfl; exact BK180.out) Try.underlying25 rfl (by kernel_rfl)) rfl ?_
 exact ⟨_, by rfl, by exact Kd.R_mono (Kd.R_far (p := ⟨gb180, 1, none⟩) (Kd.R_far (p := ⟨gb180, 0, none⟩) (Kd.R_types HO187.out BK180.out (by decide)) (fun _ hk => hk.2) (.int .i64 t184)) (fun _ hk => hk.2) (.slice Ao13 t185.length co13)) (fun _ hk => trivial), by repeat ((with_reducible first | exact HB.out | refine below_set ?_ GE180.out))⟩

end Go.Proofs.Ytjnbhieppghidaa.F
