-- Printed by wip/px/px.py of this claim's repository (the kit's printer, extended there). Lean checks it.
import Derived.Test.YtddkaiegnohkcaaFKinds
import Derived.Test.YtddkaiegnohkcaaFspecl30Open
import Derived.Test.YtddkaiegnohkcaaFspecl30Rdone
import Derived.Test.YtddkaiegnohkcaaFspecl30AnyNet
import Derived.Test.YtddkaiegnohkcaaFspecl30Node
namespace Go.Proofs.Ytddkaiegnohkcaa.F
open Go.RowKit Go.Proofs.YtddkaiegnohkcaaW.PrintWords Go.Proofs.YtddkaiegnohkcaaW.PrintLast Go.Proofs.YtddkaiegnohkcaaW.PrintMore
attribute [local go_sem] max2_int min2_int max_two min_two max_three min_three max_four min_four   -- for this text's walks alone
set_option linter.unusedVariables false
set_option linter.unusedSimpArgs false

/-! ### spec_DrawPairSum: function 32 -/
def spec_DrawPairSum.f (k : Nat) (l0 : List Int) : Option (Int × (List (S33)) × Int × Int × Int × Int) := (spec_l30Open.f l0).bind fun bt256 => ((spec_l30AnyNet.f k bt256.1 bt256.2).bind fun bt259 => ((spec_l30Node.f k bt256.1 bt259.2.2 bt259.1 bt259.2.1).bind fun bt265 => ((spec_l30Node.f k bt256.1 bt265.2 bt259.1 bt259.2.1).bind fun bt267 => ((spec_l30Rd_one.f k bt256.1 bt267.2 (([100, 50, 0, 101] : List Int))).bind fun bt272 => ((spec_l30Rd_one.f k bt256.1 bt272.2 (([0, 100, 30] : List Int))).bind fun bt277 => (some (bt259.1, bt259.2.1, bt265.1, bt267.1, bt272.1, bt277.1)))))))
theorem spec_DrawPairSum.mono : ∀ a0 k, LeO (spec_DrawPairSum.f k a0) (spec_DrawPairSum.f (k + 1) a0) := by
 intro a0 k
 unfold spec_DrawPairSum.f
 repeat' first | (with_reducible exact spec_l30AnyNet.mono _ _ _) | (with_reducible exact spec_l30Node.mono _ _ _ _ _) | (with_reducible exact spec_l30Rd_one.mono _ _ _ _) | (with_reducible exact LeO.refl _) | (with_reducible refine LeO.bind ?_ (fun _ => ?_))
def spec_DrawPairSum.T5 : Bool × List (List Nat × List Nat) := (true, [([], []), ([], []), ([], []), ([], []), ([], []), ([3, 4], [3, 4]), ([], []), ([], []), ([6, 7, 5], [6, 7]), ([0, 8, 0], [0]), ([1, 9, 0, 1, 9], [1]), ([2, 10, 0, 1, 2, 9, 10], [2]), ([5, 11, 0, 1, 2, 3, 4, 5, 9, 10, 11], [5]), ([8, 12, 0, 1, 2, 3, 4, 5, 6, 7, 8, 9, 10, 11, 12], [8])])
def spec_DrawPairSum.B5 : List Nat := [0, 0, 0, 0, 0, 24, 0, 0, 248, 505, 1019, 2047, 4095, 8191]
theorem spec_DrawPairSum.tab5 : rtab .any (opsOf Try.f32 5) = spec_DrawPairSum.T5 := by kernel_rfl
theorem spec_DrawPairSum.bits5 : waitsOk spec_DrawPairSum.T5.2 spec_DrawPairSum.B5 = true := by kernel_rfl
set_option maxHeartbeats 8000000 in
set_option maxRecDepth 100000 in
theorem spec_DrawPairSum.calls (k : Nat) (A0 : Option Addr) (c0 : Nat) (l0 : List Int) (r1 : Int) (r2 : List (S33)) (r3 : Int) (r4 : Int) (r5 : Int) (r6 : Int) (w : World) (hr0 : Kd.C (Kd.int .u8) w A0 l0.length l0) (hc0 : l0.length ≤ c0) (h : spec_DrawPairSum.f k l0 = some (r1, r2, r3, r4, r5, r6)) :
  Calls Try.prog 32 #[.slice A0 l0.length c0] w fun e w' => ∃ v1_ : Value, e = .returned (.tuple #[.agg #[.int .i64 r1, v1_], .int .i64 r3, .int .i64 r4, .int .i64 r5, .int .i64 r6]) ∧ Kd.R k33 33 w' w.heap.size (fun _ => True) v1_ r2 ∧ Below w.heap.size w w' := by
 have hu25 := Try.underlying25
 have HR0 := ak hr0
 have HC0 := ak hc0
 clear hr0 hc0
 have HB := ak (Below.refl w.heap.size w)
 have H : ((spec_l30Open.f l0).bind fun bt256 => ((spec_l30AnyNet.f k bt256.1 bt256.2).bind fun bt259 => ((spec_l30Node.f k bt256.1 bt259.2.2 bt259.1 bt259.2.1).bind fun bt265 => ((spec_l30Node.f k bt256.1 bt265.2 bt259.1 bt259.2.1).bind fun bt267 => ((spec_l30Rd_one.f k bt256.1 bt267.2 (([100, 50, 0, 101] : List Int))).bind fun bt272 => ((spec_l30Rd_one.f k bt256.1 bt272.2 (([0, 100, 30] : List Int))).bind fun bt277 => (some (bt259.1, bt259.2.1, bt265.1, bt267.1, bt272.1, bt277.1)))))))) = some (r1, r2, r3, r4, r5, r6) := h
 clear h
 replace H := Option.bind_eq_some_iff.mp H
 obtain ⟨⟨t256, t257⟩, A20, H⟩ := H
 have A2 := ak A20
 clear A20
 replace H := Option.bind_eq_some_iff.mp H
 obtain ⟨⟨t259, t260, t263⟩, A30, H⟩ := H
 have A3 := ak A30
 clear A30
 replace H := Option.bind_eq_some_iff.mp H
 obtain ⟨⟨t265, t266⟩, A40, H⟩ := H
 have A4 := ak A40
 clear A40
 replace H := Option.bind_eq_some_iff.mp H
 obtain ⟨⟨t267, t268⟩, A50, H⟩ := H
 have A5 := ak A50
 clear A50
 obtain ⟨y269, hy269⟩ : ∃ y_ : List Int, y_ = (([100, 50, 0, 101] : List Int)) := ⟨_, rfl⟩
 replace H : ((spec_l30Rd_one.f k t256 t268 y269).bind fun bt272 => ((spec_l30Rd_one.f k t256 bt272.2 (([0, 100, 30] : List Int))).bind fun bt277 => (some (t259, t260, t265, t267, bt272.1, bt277.1)))) = some (r1, r2, r3, r4, r5, r6) := by (rw [hy269]; with_reducible exact H)
 have Ny269 := ak hy269
 clear hy269
 replace H := Option.bind_eq_some_iff.mp H
 obtain ⟨⟨t272, t273⟩, A60, H⟩ := H
 have A6 := ak A60
 clear A60
 obtain ⟨y274, hy274⟩ : ∃ y_ : List Int, y_ = (([0, 100, 30] : List Int)) := ⟨_, rfl⟩
 replace H : ((spec_l30Rd_one.f k t256 t273 y274).bind fun bt277 => (some (t259, t260, t265, t267, t272, bt277.1))) = some (r1, r2, r3, r4, r5, r6) := by (rw [hy274]; with_reducible exact H)
 have Ny274 := ak hy274
 clear hy274
 replace H := Option.bind_eq_some_iff.mp H
 obtain ⟨⟨t277, t278⟩, A70, H⟩ := H
 have A7 := ak A70
 clear A70
 simp only [Option.some.injEq, Prod.mk.injEq] at H
 obtain ⟨rfl, rfl, rfl, rfl, rfl, rfl⟩ := H
 go_enter Try.func32, Try.ntmps32
 try go_wp2_with (first | ((with_reducible refine gate_dst (N := 2) rfl ?_); refine box_event ?hg (N := 2) ?hd (cs := #[.int .i64 0, .slice none 0 0]) (t := 25) ?hr ?_; (case hd => rfl); (case hg => rfl); (case hr => (go_simp; done)); intro gb255 hg w8 hbox hb; have BK255 := ak (hbox); have GW255 := ak ((by rw [hg]; exact (below_size (bl HB)) : w.heap.size ≤ gb255)); have GE255 := ak ((by rw [hg]; exact (below_size (bl HB)) : w.heap.size ≤ gb255)); replace HB := ak (below_step (bl HB) hb); clear hb hbox hg) | ((with_reducible refine gate_callee (f := 38) rfl ?_); refine goesL_ (some 12) rfl rfl Try.func38 (by kernel_rfl) rfl #[.slice A0 l0.length c0] rfl (by (try simp only [List.map_toArray, List.map_cons, List.map_nil]); rfl) ?_; (with_reducible refine (spec_l30Open.calls _ _ l0 t256 t257 w _ ?side1 ?side2 ?side3 A2.out).mono ?_); (case side1 => repeat ((with_reducible exact HB.out))); (case side2 => exact HR0.out); (case side3 => exact HC0.out); rintro e w9 ⟨g258, rfl, hi, hb, hb2⟩; refine ⟨_, rfl, ?_⟩; replace HB := ak (hb); have HI258 := ak (hi); have NB258_255 := ak (IsS89.ne_blk hi (blk_below (bk BK255) hb2) (by decide)); have NB255_258 := ak (Ne.symm (IsS89.ne_blk hi (blk_below (bk BK255) hb2) (by decide))); replace BK255 := ak (blk_below (bk BK255) hb2); (try clear hb); (try clear hb2); (try clear hk); (try clear hi)) | ((with_reducible refine gate_callee (f := 39) rfl ?_); refine goesL_ (some 14) rfl rfl Try.func39 (by kernel_rfl) rfl #[.pointer (some ⟨g258, 0, none⟩)] rfl (by (try simp only [List.map_toArray, List.map_cons, List.map_nil]); rfl) ?_; (with_reducible refine (spec_l30AnyNet.calls k g258 t256 t257 t259 t260 t263 w _ ?side1 ?side2 A3.out).mono ?_); (case side1 => repeat ((with_reducible exact HI258.out))); (case side2 => repeat ((with_reducible exact HB.out))); rintro e w10 ⟨v261, rfl, ho0, hi, hb, hk⟩; refine ⟨_, rfl, ?_⟩; replace BK255 := ak (KeepBut.blk hk (g' := gb255) (o := .cells #[.int .i64 0, .slice none 0 0] 25 (0, 0)) (bk BK255) NB255_258.out (by simp)); have HO262 := ak (Kd.R_lower ho0 (below_size (by repeat ((with_reducible exact HB.out))))); replace HB := ak (hb); replace HI258 := ak (hi); (try clear hb); (try clear hb2); (try clear hk); (try clear hi); (try clear ho0)) | ((with_reducible refine gate_dst (N := 8) rfl ?_); refine box_event ?hg (N := 8) ?hd (cs := #[.int .i64 0, .slice none 0 0]) (t := 25) ?hr ?_; (case hd => rfl); (case hg => rfl); (case hr => (go_simp; done)); intro gb264 hg w11 hbox hb; replace HO262 := ak (Kd.R_below (rk HO262) hb); have BK264 := ak (hbox); have GW264 := ak ((by rw [hg]; exact (below_size (by repeat ((with_reducible exact HB.out)))) : w.heap.size ≤ gb264)); have GE264 := ak ((by rw [hg]; exact (below_size (by repeat ((with_reducible exact HB.out)))) : w.heap.size ≤ gb264)); replace HB := ak (below_step (by repeat ((with_reducible exact HB.out))) hb); have NB255_264 := ak ((by rw [hg]; exact Nat.ne_of_lt (blk_lt (bk BK255)) : gb255 ≠ gb264)); have NB264_255 := ak ((by rw [hg]; exact Nat.ne_of_gt (blk_lt (bk BK255)) : gb264 ≠ gb255)); replace BK255 := ak (blk_below (bk BK255) hb); have NB258_264 := ak ((by rw [hg]; exact Nat.ne_of_lt (IsS89.lt (show IsS89 w _ g258 t256 t263 from by repeat ((with_reducible exact HI258.out)))) : g258 ≠ gb264)); have NB264_258 := ak ((by rw [hg]; exact Nat.ne_of_gt (IsS89.lt (show IsS89 w _ g258 t256 t263 from by repeat ((with_reducible exact HI258.out)))) : gb264 ≠ g258)); replace HI258 := ak (IsS89.below (by repeat ((with_reducible exact HI258.out))) hb); clear hb hbox hg; have hnb12 := NB264_255.out; have hnc12 := NB255_264.out; have hnb13 := NB264_258.out; have hnc13 := NB258_264.out; have hcz14_0 := bc w11 BK264 0 (.int .i64 0) rfl; have hcz14_1 := bc w11 BK264 1 (.slice none 0 0) rfl; have hfz14_0 := fz BK264 0; have hfz14_1 := fz BK264 1; obtain ⟨Ao15, co15, eo15⟩ := Kd.R_slice HO262.out; subst eo15) | ((with_reducible refine gate_callee (f := 57) rfl ?_); refine goesL_ (some 17) rfl rfl Try.func57 (by kernel_rfl) rfl #[.pointer (some ⟨g258, 0, none⟩), .agg #[.int .i64 t259, .slice Ao15 t260.length co15]] rfl (by (try simp only [List.map_toArray, List.map_cons, List.map_nil]); rfl) ?_; (with_reducible refine (spec_l30Node.calls k g258 t256 t263 t259 _ _ t260 t265 t266 w _ ?side1 ?side2 ?side3 ?side4 A4.out).mono ?_); (case side1 => repeat ((with_reducible first | exact HI258.out | refine IsS89.far ?_ NB258_264.out _))); (case side2 => repeat ((with_reducible first | exact HB.out | refine below_set ?_ GE264.out))); (case side3 => exact Kd.C_foot_own (IsS89.apart (show IsS89 w _ g258 t256 t263 from by repeat ((with_reducible first | exact HI258.out | refine IsS89.far ?_ NB258_264.out _))) (by exact (Kd.R_mono (Kd.R_far (p := ⟨gb264, 1, none⟩) (Kd.R_far (p := ⟨gb264, 0, none⟩) (Kd.R_types HO262.out BK264.out (by decide)) (fun _ hk => hk.2) (.int .i64 t259)) (fun _ hk => hk.2) (.slice Ao15 t260.length co15)) (fun _ h_ => h_.1))) (by decide)) (fun _ h_ => h_.2)); (case side4 => exact (Kd.R_reads' HO262.out).2.1); rintro e w16 ⟨rfl, hi, hb, hk⟩; refine ⟨_, rfl, ?_⟩; replace BK255 := ak (KeepBut.blk hk (g' := gb255) (o := .cells #[.int .i64 0, .slice none 0 0] 25 (0, 0)) (by refine blk_far ?_ NB255_264.out _; refine blk_far ?_ NB255_264.out _; exact BK255.out) NB255_258.out (by simp)); replace HO262 := ak (Kd.R_mono (Kd.R_keep (IsS89.apart (show IsS89 w _ g258 t256 t263 from by repeat ((with_reducible first | exact HI258.out | refine IsS89.far ?_ NB258_264.out _))) (by exact (Kd.R_mono (Kd.R_far (p := ⟨gb264, 1, none⟩) (Kd.R_far (p := ⟨gb264, 0, none⟩) (Kd.R_types HO262.out BK264.out (by decide)) (fun _ hk => hk.2) (.int .i64 t259)) (fun _ hk => hk.2) (.slice Ao15 t260.length co15)) (fun _ h_ => h_.1))) (by decide)) hk (fun _ h => h.2)) (fun _ h => h.1)); replace BK264 := ak (KeepBut.blk hk (g' := gb264) (o := .cells #[.int .i64 t259, .slice Ao15 t260.length co15] 25 (0, 0)) (by refine blk_put (cs := #[.int .i64 t259, .slice none 0 0]) ?_ 1 _ rfl; refine blk_put (cs := #[.int .i64 0, .slice none 0 0]) ?_ 0 _ rfl; exact BK264.out) NB264_258.out (by simp)); replace HB := ak (hb); replace HI258 := ak (hi); (try clear hb); (try clear hb2); (try clear hk); (try clear hi); have hcz17_0 := bc w16 BK264 0 (.int .i64 t259) rfl; have hcz17_1 := bc w16 BK264 1 (.slice Ao15 t260.length co15) rfl; have hfz17_0 := fz BK264 0; have hfz17_1 := fz BK264 1) | ((with_reducible refine gate_callee (f := 57) rfl ?_); refine goesL_ (some 20) rfl rfl Try.func57 (by kernel_rfl) rfl #[.pointer (some ⟨g258, 0, none⟩), .agg #[.int .i64 t259, .slice Ao15 t260.length co15]] rfl (by (try simp only [List.map_toArray, List.map_cons, List.map_nil]); rfl) ?_; (with_reducible refine (spec_l30Node.calls k g258 t256 t266 t259 _ _ t260 t267 t268 w _ ?side1 ?side2 ?side3 ?side4 A5.out).mono ?_); (case side1 => repeat ((with_reducible exact HI258.out))); (case side2 => repeat ((with_reducible exact HB.out))); (case side3 => exact Kd.C_foot_own (IsS89.apart (show IsS89 w _ g258 t256 t266 from by repeat ((with_reducible exact HI258.out))) (rk HO262) (by decide)) (fun _ h_ => h_.2)); (case side4 => exact (Kd.R_reads' HO262.out).2.1); rintro e w18 ⟨rfl, hi, hb, hk⟩; refine ⟨_, rfl, ?_⟩; replace BK255 := ak (KeepBut.blk hk (g' := gb255) (o := .cells #[.int .i64 0, .slice none 0 0] 25 (0, 0)) (bk BK255) NB255_258.out (by simp)); replace HO262 := ak (Kd.R_mono (Kd.R_keep (IsS89.apart (show IsS89 w _ g258 t256 t266 from by repeat ((with_reducible exact HI258.out))) (rk HO262) (by decide)) hk (fun _ h => h.2)) (fun _ h => h.1)); replace BK264 := ak (KeepBut.blk hk (g' := gb264) (o := .cells #[.int .i64 t259, .slice Ao15 t260.length co15] 25 (0, 0)) (bk BK264) NB264_258.out (by simp)); replace HB := ak (hb); replace HI258 := ak (hi); (try clear hb); (try clear hb2); (try clear hk); (try clear hi)))
 replace HO262 := ak (Kd.R_drew HO262.out)
 replace BK255 := ak (blk_drew BK255.out)
 replace BK264 := ak (blk_drew BK264.out)
 replace HI258 := ak (IsS89.drew HI258.out)
 replace HB := ak (below_drew1 HB.out)
 refine start_ (n := 14) (S := fun w' => True) (ds := []) (ms 14 0) (by kernel_rfl) rfl (by kernel_rfl) trivial (fun hHeld => ?_); refine with_tabW spec_DrawPairSum.tab5 spec_DrawPairSum.bits5 (fun HT_ HW_ => ?_)
 generalize w18.drew = w19 at HO262 BK255 BK264 HI258 HB hHeld ⊢
 refine pu 1 22 ?_ (ms 14 2) rfl rfl HT_ (by kernel_rfl) (fun _ _ _ h => h) (by rfl) ?_ ?_ ?_ ?_
 rotate_left
 ·intro w'
  go_simp
  with_reducible rfl
 rotate_left
 ·simp only [SX]
  rfl
 refine pu 2 23 ?_ (ms 14 6) rfl rfl HT_ (by kernel_rfl) (fun _ _ _ h => h) (by rfl) ?_ ?_ ?_ ?_
 rotate_left
 ·intro w'
  go_simp
  with_reducible rfl
 rotate_left
 ·simp only [SX]
  rfl
 refine pu 3 24 ?_ (ms 14 14) rfl rfl HT_ (by kernel_rfl) (fun _ _ _ h => h) (by rfl) ?_ ?_ ?_ ?_
 rotate_left
 ·intro w'
  go_simp
  with_reducible rfl
 rotate_left
 ·simp only [SX]
  rfl
 refine pu 6 27 ?_ (ms 14 78) rfl rfl HT_ (by kernel_rfl) (fun _ _ _ h => h) (by rfl) ?_ ?_ ?_ ?_
 rotate_left
 ·intro w'
  go_simp
  with_reducible rfl
 rotate_left
 ·simp only [SX]
  rfl
 refine inv_at [0, 4, 5, 7, 8, 9, 10, 11, 12, 13] (fun a0_ b a w' => ∃ (v270 : Value) (v275 : Value), a = putSel a0_ b [(0, 21, .agg #[.int .i64 t259, .slice Ao15 t260.length co15]), (4, 25, v270), (5, 26, .int .i64 t272), (7, 28, v275), (8, 29, .int .i64 t277), (10, 3, .int .i64 t265), (11, 4, .int .i64 t267), (12, 5, .int .i64 t272), (13, 6, .int .i64 t277)] ∧ (Kd.R k33 33 w' w.heap.size (fun _ => True) (.slice Ao15 t260.length co15) t260) ∧ (b 9 = false → w'.heap[gb255]? = some (.cells #[.int .i64 0, .slice none 0 0] 25 (0, 0))) ∧ (w'.heap[gb264]? = some (.cells #[.int .i64 t259, .slice Ao15 t260.length co15] 25 (0, 0))) ∧ (b 5 = false → IsS89 w w' g258 t256 t268) ∧ (Below w.heap.size w w') ∧ (b 4 = true → Kd.R (Kd.int .i64) 3 w' w.heap.size (fun _ => True) v270 y269) ∧ (b 5 = true → b 8 = false → IsS89 w w' g258 t256 t273) ∧ (b 7 = true → Kd.R (Kd.int .i64) 3 w' w.heap.size (fun _ => True) v275 y274) ∧ (b 8 = true → IsS89 w w' g258 t256 t278) ∧ (b 9 = true → w'.heap[gb255]? = some (.cells #[.int .i64 t259, .slice Ao15 t260.length co15] 25 (0, 0)))) HT_.out HW_.out (by kernel_rfl) (by kernel_rfl) ?_ ?_ ?_
 ·exact ⟨.bool false, .bool false, by simp only [putSel, Bool.false_eq_true, if_false], HO262.out, fun _ => BK255.out, BK264.out, fun _ => HI258.out, HB.out, fun h_ => absurd h_ (by decide), fun h_ => absurd h_ (by decide), fun h_ => absurd h_ (by decide), fun h_ => absurd h_ (by decide), fun h_ => absurd h_ (by decide)⟩
 ·skip
  clear BK255 BK264 HB HI258 HO262
  refine steps_cons ?_ ?_
  ·rintro b a w' ⟨v270, v275, ha, Q_HO262, Q_BK255, Q_BK264, Q_HI258, Q_HB, Q_HO271, Q_HI258_e5, Q_HO276, Q_HI258_e8, Q_BK255_e9⟩ hb_ hon hoff
   refine ⟨_, rfl, fun K hK => ?_⟩
   have e8 : a.tmps[8]? = some (.pointer (some ⟨gb264, 0, none⟩)) := by rw [ha]; exact (putSel_off rfl).trans rfl
   replace ha := ak ha
   have HO262 := ak Q_HO262
   have BK255 := ak (Q_BK255 (hoff 9 (by kernel_rfl)))
   have BK264 := ak Q_BK264
   have HB := ak Q_HB
   have hc0_ : w'.cell? ⟨gb264, 0, none⟩ = some (.int .i64 t259) := (blk_cell BK264.out 0).trans rfl
   have hc1_ : w'.cell? ⟨gb264, 1, none⟩ = some (.slice Ao15 t260.length co15) := (blk_cell BK264.out 1).trans rfl
   refine value_ (w1 := w') (v := .agg #[.int .i64 t259, .slice Ao15 t260.length co15]) (by rfl) rfl ?_ ?_
   ·go_simp
    (try simp only [i64_w])
    try rfl
   refine hK.out _ _ ⟨v270, v275, (by rw [ha.out]; exact putSel_upk 0 hb_ rfl rfl rfl), Q_HO262, Q_BK255, Q_BK264, Q_HI258, Q_HB, Q_HO271, Q_HI258_e5, Q_HO276, Q_HI258_e8, fun h0_ => absurd ((hoff 9 (by kernel_rfl)).symm.trans h0_) (by decide)⟩
  refine steps_cons ?_ ?_
  ·rintro b a w' ⟨v270, v275, ha, Q_HO262, Q_BK255, Q_BK264, Q_HI258, Q_HB, Q_HO271, Q_HI258_e5, Q_HO276, Q_HI258_e8, Q_BK255_e9⟩ hb_ hon hoff
   refine ⟨_, rfl, fun K hK => ?_⟩
   replace ha := ak ha
   have HO262 := ak Q_HO262
   have BK255 := ak (Q_BK255 (hoff 9 (by kernel_rfl)))
   have BK264 := ak Q_BK264
   have HI258 := ak (Q_HI258 (hoff 5 (by kernel_rfl)))
   have HB := ak Q_HB
   refine Kd.R_lit_step (Kd.int .i64) _ 3 ?hg (N := 25) ?hd (xs := ([100, 50, 0, 101] : List Int)) (inner := [.int .i64 100, .int .i64 50, .int .i64 0, .int .i64 101]) (ok := fun _ => True) (okp := fun _ => True) ?hr ?hp (fun _ hk => hk) trivial (Below.refl _ _) (Nat.le_refl _) (by simp) ?_; (case hd => rfl); (case hg => rfl); (case hr => (go_simp; done)); (case hp => exact (Reps.one (show Kd.M (Kd.int .i64) _ _ _ 100 [.int .i64 100] from rfl) (Reps.one (show Kd.M (Kd.int .i64) _ _ _ 50 [.int .i64 50] from rfl) (Reps.one (show Kd.M (Kd.int .i64) _ _ _ 0 [.int .i64 0] from rfl) (Reps.one (show Kd.M (Kd.int .i64) _ _ _ 101 [.int .i64 101] from rfl) (Reps.none _ _))))))
   intro v270 w20 ho21 hb hg_ hnew_
   clear hg_ hnew_
   (rw [← Ny269.out] at ho21)
   have n0_ := ak (Kd.R_below (rk HO262) hb)
   have n1_ := ak (Kd.R_lower ho21 (below_size (by repeat ((with_reducible exact HB.out)))))
   have n2_ := ak (blk_below (bk BK255) hb)
   have n3_ := ak (IsS89.below (by repeat ((with_reducible exact HI258.out))) hb)
   have n4_ := ak (blk_below (bk BK264) hb)
   have n5_ := ak (below_step (by repeat ((with_reducible exact HB.out))) hb)
   have z_HO276 := fun (h0_ : b 7 = true) => (show Kd.R (Kd.int .i64) 3 w20 w.heap.size (fun _ => True) v275 y274 from by exact Kd.R_mono (Kd.R_elder' (by exact (Q_HO276 h0_)) (Kd.R_base ho21) hb) (fun _ h_ => by trivial))
   clear HO262
   clear BK255
   clear HI258
   clear BK264
   clear HB
   have HO262 := n0_
   have HO271 := n1_
   have BK255 := n2_
   have HI258 := n3_
   have BK264 := n4_
   have HB := n5_
   clear n0_ n1_ n2_ n3_ n4_ n5_
   clear hb ho21
   refine hK.out _ _ ⟨v270, v275, (by rw [ha.out]; exact putSel_upk 1 hb_ rfl rfl rfl), (rk HO262), fun _ => (bk BK255), (bk BK264), fun _ => (by repeat ((with_reducible exact HI258.out))), (by repeat ((with_reducible exact HB.out))), fun _ => (rk HO271), fun h0_ _ => absurd ((hoff 5 (by kernel_rfl)).symm.trans h0_) (by decide), z_HO276, fun h0_ => absurd ((hoff 8 (by kernel_rfl)).symm.trans h0_) (by decide), fun h0_ => absurd ((hoff 9 (by kernel_rfl)).symm.trans h0_) (by decide)⟩
  refine steps_cons ?_ ?_
  ·rintro b a w' ⟨v270, v275, ha, Q_HO262, Q_BK255, Q_BK264, Q_HI258, Q_HB, Q_HO271, Q_HI258_e5, Q_HO276, Q_HI258_e8, Q_BK255_e9⟩ hb_ hon hoff
   refine ⟨_, rfl, fun K hK => ?_⟩
   have e24 : a.tmps[24]? = some (.pointer (some ⟨g258, 0, none⟩)) := by rw [ha]; exact (putSel_off rfl).trans rfl
   have e25 : a.tmps[25]? = some (v270) := by rw [ha]; exact putSel_on (e := (4, 25, v270)) 1 rfl rfl (hon 4 (by kernel_rfl)) rfl
   replace ha := ak ha
   have HO262 := ak Q_HO262
   have BK255 := ak (Q_BK255 (hoff 9 (by kernel_rfl)))
   have BK264 := ak Q_BK264
   have HI258 := ak (Q_HI258 hb_)
   have HB := ak Q_HB
   have HO271 := ak (Q_HO271 (hon 4 (by kernel_rfl)))
   obtain ⟨Ao23, co23, eo23⟩ := Kd.R_slice HO271.out
   (subst eo23)
   refine goes_ Try.func58 (by kernel_rfl) rfl #[.pointer (some ⟨g258, 0, none⟩), .slice Ao23 y269.length co23] (by rfl) rfl rfl (by (simp only [List.map_toArray, List.map_cons, List.map_nil, Act.eval, Array.getD_eq_getD_getElem?, Option.getD_some, e24, e25]; done)) ?_
   with_reducible refine (spec_l30Rd_one.calls k g258 t256 t268 _ _ y269 t272 t273 w _ ?side1 ?side2 ?side3 ?side4 ?side5 A6.out).mono ?_
   (case side1 => repeat ((with_reducible exact HI258.out)))
   (case side2 => repeat ((with_reducible exact HB.out)))
   (case side3 => repeat (exact (Kd.R_reads' HO271.out).2.2))
   (case side4 => exact (Kd.R_reads' HO271.out).2.1)
   (case side5 => exact far_slice (IsS89.own_ne HI258.out HO271.out (by decide)))
   rintro e w24 ⟨rfl, hi, hb, hk⟩
   refine ⟨_, rfl, ?_⟩
   have n0_ := ak (KeepBut.blk hk (g' := gb255) (o := .cells #[.int .i64 0, .slice none 0 0] 25 (0, 0)) (bk BK255) NB255_258.out (by simp))
   have n1_ := ak (Kd.R_mono (Kd.R_keep (IsS89.apart (show IsS89 w _ g258 t256 t268 from by repeat ((with_reducible exact HI258.out))) (rk HO262) (by decide)) hk (fun _ h => h.2)) (fun _ h => h.1))
   have n2_ := ak (KeepBut.blk hk (g' := gb264) (o := .cells #[.int .i64 t259, .slice Ao15 t260.length co15] 25 (0, 0)) (bk BK264) NB264_258.out (by simp))
   have n3_ := ak (Kd.R_mono (Kd.R_keep (IsS89.apart (show IsS89 w _ g258 t256 t268 from by repeat ((with_reducible exact HI258.out))) (rk HO271) (by decide)) hk (fun _ h => h.2)) (fun _ h => h.1))
   have n4_ := ak (hb)
   have n5_ := ak (hi)
   have z_HO276 := fun (h0_ : b 7 = true) => (show Kd.R (Kd.int .i64) 3 w24 w.heap.size (fun _ => True) v275 y274 from by exact (Kd.R_mono (Kd.R_keep (IsS89.apart (show IsS89 w _ g258 t256 t268 from by repeat ((with_reducible exact HI258.out))) (by exact (Q_HO276 h0_)) (by decide)) hk (fun _ h => h.2)) (fun _ h => h.1)))
   clear BK255
   clear HO262
   clear BK264
   clear HO271
   clear HB
   clear HI258
   have BK255 := n0_
   have HO262 := n1_
   have BK264 := n2_
   have HO271 := n3_
   have HB := n4_
   have HI258 := n5_
   clear n0_ n1_ n2_ n3_ n4_ n5_
   (try clear hb)
   (try clear hb2)
   (try clear hk)
   (try clear hi)
   refine hK.out _ _ ⟨.slice Ao23 y269.length co23, v275, (by rw [ha.out]; exact putSel_upk 2 hb_ rfl rfl rfl), (rk HO262), fun _ => (bk BK255), (bk BK264), fun h0_ => absurd ((up_self b 5).symm.trans h0_) (by decide), (by repeat ((with_reducible exact HB.out))), fun _ => (rk HO271), fun _ _ => (by repeat ((with_reducible exact HI258.out))), z_HO276, fun h0_ => absurd ((hoff 8 (by kernel_rfl)).symm.trans h0_) (by decide), fun h0_ => absurd ((hoff 9 (by kernel_rfl)).symm.trans h0_) (by decide)⟩
  refine steps_cons ?_ ?_
  ·rintro b a w' ⟨v270, v275, ha, Q_HO262, Q_BK255, Q_BK264, Q_HI258, Q_HB, Q_HO271, Q_HI258_e5, Q_HO276, Q_HI258_e8, Q_BK255_e9⟩ hb_ hon hoff
   refine ⟨_, rfl, fun K hK => ?_⟩
   replace ha := ak ha
   have HO262 := ak Q_HO262
   have BK255 := ak (Q_BK255 (hoff 9 (by kernel_rfl)))
   have BK264 := ak Q_BK264
   have HB := ak Q_HB
   refine Kd.R_lit_step (Kd.int .i64) _ 3 ?hg (N := 28) ?hd (xs := ([0, 100, 30] : List Int)) (inner := [.int .i64 0, .int .i64 100, .int .i64 30]) (ok := fun _ => True) (okp := fun _ => True) ?hr ?hp (fun _ hk => hk) trivial (Below.refl _ _) (Nat.le_refl _) (by simp) ?_; (case hd => rfl); (case hg => rfl); (case hr => (go_simp; done)); (case hp => exact (Reps.one (show Kd.M (Kd.int .i64) _ _ _ 0 [.int .i64 0] from rfl) (Reps.one (show Kd.M (Kd.int .i64) _ _ _ 100 [.int .i64 100] from rfl) (Reps.one (show Kd.M (Kd.int .i64) _ _ _ 30 [.int .i64 30] from rfl) (Reps.none _ _)))))
   intro v275 w20 ho21 hb hg_ hnew_
   clear hg_ hnew_
   (rw [← Ny274.out] at ho21)
   have n0_ := ak (Kd.R_below (rk HO262) hb)
   have n1_ := ak (Kd.R_lower ho21 (below_size (bl2 HB GE255 GE264)))
   have n2_ := ak (blk_below (bk BK255) hb)
   have n4_ := ak (blk_below (bk BK264) hb)
   have n5_ := ak (below_step (bl2 HB GE255 GE264) hb)
   have z_HI258 := fun (h0_ : b 5 = false) => (show IsS89 w w20 g258 t256 t268 from by exact (IsS89.below (by repeat ((with_reducible exact (Q_HI258 h0_)))) hb))
   have z_HO271 := fun (h0_ : b 4 = true) => (show Kd.R (Kd.int .i64) 3 w20 w.heap.size (fun _ => True) v270 y269 from by exact Kd.R_mono (Kd.R_elder' (by exact (Q_HO271 h0_)) (Kd.R_base ho21) hb) (fun _ h_ => by trivial))
   have z_HI258_e5 := fun (h0_ : b 5 = true) (h1_ : b 8 = false) => (show IsS89 w w20 g258 t256 t273 from by exact (IsS89.below (by repeat ((with_reducible exact (Q_HI258_e5 h0_ h1_)))) hb))
   clear HO262
   clear BK255
   clear BK264
   clear HB
   have HO262 := n0_
   have HO276 := n1_
   have BK255 := n2_
   have BK264 := n4_
   have HB := n5_
   clear n0_ n1_ n2_ n4_ n5_
   clear hb ho21
   refine hK.out _ _ ⟨v270, v275, (by rw [ha.out]; exact putSel_upk 3 hb_ rfl rfl rfl), (rk HO262), fun _ => (bk BK255), (bk BK264), z_HI258, (bl2 HB GE255 GE264), z_HO271, z_HI258_e5, fun _ => (rk HO276), fun h0_ => absurd ((hoff 8 (by kernel_rfl)).symm.trans h0_) (by decide), fun h0_ => absurd ((hoff 9 (by kernel_rfl)).symm.trans h0_) (by decide)⟩
  refine steps_cons ?_ ?_
  ·rintro b a w' ⟨v270, v275, ha, Q_HO262, Q_BK255, Q_BK264, Q_HI258, Q_HB, Q_HO271, Q_HI258_e5, Q_HO276, Q_HI258_e8, Q_BK255_e9⟩ hb_ hon hoff
   refine ⟨_, rfl, fun K hK => ?_⟩
   have e27 : a.tmps[27]? = some (.pointer (some ⟨g258, 0, none⟩)) := by rw [ha]; exact (putSel_off rfl).trans rfl
   have e28 : a.tmps[28]? = some (v275) := by rw [ha]; exact putSel_on (e := (7, 28, v275)) 3 rfl rfl (hon 7 (by kernel_rfl)) rfl
   replace ha := ak ha
   have HO262 := ak Q_HO262
   have BK255 := ak (Q_BK255 (hoff 9 (by kernel_rfl)))
   have BK264 := ak Q_BK264
   have HB := ak Q_HB
   have HO271 := ak (Q_HO271 (hon 4 (by kernel_rfl)))
   have HI258 := ak (Q_HI258_e5 (hon 5 (by kernel_rfl)) hb_)
   have HO276 := ak (Q_HO276 (hon 7 (by kernel_rfl)))
   obtain ⟨Ao27, co27, eo27⟩ := Kd.R_slice HO276.out
   (subst eo27)
   refine goes_ Try.func58 (by kernel_rfl) rfl #[.pointer (some ⟨g258, 0, none⟩), .slice Ao27 y274.length co27] (by rfl) rfl rfl (by (simp only [List.map_toArray, List.map_cons, List.map_nil, Act.eval, Array.getD_eq_getD_getElem?, Option.getD_some, e27, e28]; done)) ?_
   with_reducible refine (spec_l30Rd_one.calls k g258 t256 t273 _ _ y274 t277 t278 w _ ?side1 ?side2 ?side3 ?side4 ?side5 A7.out).mono ?_
   (case side1 => repeat ((with_reducible exact HI258.out)))
   (case side2 => repeat ((with_reducible exact HB.out)))
   (case side3 => repeat (exact (Kd.R_reads' HO276.out).2.2))
   (case side4 => exact (Kd.R_reads' HO276.out).2.1)
   (case side5 => exact far_slice (IsS89.own_ne HI258.out HO276.out (by decide)))
   rintro e w28 ⟨rfl, hi, hb, hk⟩
   refine ⟨_, rfl, ?_⟩
   replace BK255 := ak (KeepBut.blk hk (g' := gb255) (o := .cells #[.int .i64 0, .slice none 0 0] 25 (0, 0)) (bk BK255) NB255_258.out (by simp))
   replace HO262 := ak (Kd.R_mono (Kd.R_keep (IsS89.apart (show IsS89 w _ g258 t256 t273 from by repeat ((with_reducible exact HI258.out))) (rk HO262) (by decide)) hk (fun _ h => h.2)) (fun _ h => h.1))
   replace BK264 := ak (KeepBut.blk hk (g' := gb264) (o := .cells #[.int .i64 t259, .slice Ao15 t260.length co15] 25 (0, 0)) (bk BK264) NB264_258.out (by simp))
   replace HO271 := ak (Kd.R_mono (Kd.R_keep (IsS89.apart (show IsS89 w _ g258 t256 t273 from by repeat ((with_reducible exact HI258.out))) (rk HO271) (by decide)) hk (fun _ h => h.2)) (fun _ h => h.1))
   replace HO276 := ak (Kd.R_mono (Kd.R_keep (IsS89.apart (show IsS89 w _ g258 t256 t273 from by repeat ((with_reducible exact HI258.out))) (rk HO276) (by decide)) hk (fun _ h => h.2)) (fun _ h => h.1))
   replace HB := ak (hb)
   replace HI258 := ak (hi)
   (try clear hb)
   (try clear hb2)
   (try clear hk)
   (try clear hi)
   refine hK.out _ _ ⟨v270, .slice Ao27 y274.length co27, (by rw [ha.out]; exact putSel_upk 4 hb_ rfl rfl rfl), (rk HO262), fun _ => (bk BK255), (bk BK264), fun h0_ => absurd ((hon 5 (by kernel_rfl)).symm.trans h0_) (by decide), (by repeat ((with_reducible exact HB.out))), fun _ => (rk HO271), fun _ h1_ => absurd ((up_self b 8).symm.trans h1_) (by decide), fun _ => (rk HO276), fun _ => (by repeat ((with_reducible exact HI258.out))), fun h0_ => absurd ((hoff 9 (by kernel_rfl)).symm.trans h0_) (by decide)⟩
  refine steps_cons ?_ ?_
  ·rintro b a w' ⟨v270, v275, ha, Q_HO262, Q_BK255, Q_BK264, Q_HI258, Q_HB, Q_HO271, Q_HI258_e5, Q_HO276, Q_HI258_e8, Q_BK255_e9⟩ hb_ hon hoff
   refine ⟨_, rfl, fun K hK => ?_⟩
   have e2 : a.tmps[2]? = some (.pointer (some ⟨gb255, 0, none⟩)) := by rw [ha]; exact (putSel_off rfl).trans rfl
   have e21 : a.tmps[21]? = some (.agg #[.int .i64 t259, .slice Ao15 t260.length co15]) := by rw [ha]; exact putSel_on (e := (0, 21, .agg #[.int .i64 t259, .slice Ao15 t260.length co15])) 0 rfl rfl (hon 0 (by kernel_rfl)) rfl
   replace ha := ak ha
   have HO262 := ak Q_HO262
   have BK255 := ak (Q_BK255 hb_)
   have BK264 := ak Q_BK264
   have HB := ak Q_HB
   have HO271 := ak (Q_HO271 (hon 4 (by kernel_rfl)))
   have HO276 := ak (Q_HO276 (hon 7 (by kernel_rfl)))
   have HI258 := ak (Q_HI258_e8 (hon 8 (by kernel_rfl)))
   have hs29 : w'.cell? ⟨gb255, 0, none⟩ = some (.int .i64 0) := (blk_cell BK255.out 0).trans rfl
   have hfs29 := blk_frozen BK255.out 0
   have hns29_1 := NB264_255.out
   have hms29_1 := NB255_264.out
   have hs30 : w'.cell? ⟨gb255, 1, none⟩ = some (.slice none 0 0) := (blk_cell BK255.out 1).trans rfl
   have hfs30 := blk_frozen BK255.out 1
   have hns30_1 := NB264_255.out
   have hms30_1 := NB255_264.out
   refine skip_ (w1 := ?_) (by rfl) rfl ?_ ?_
   rotate_left
   ·go_simp
    rfl
   refine hK.out _ _ ⟨v270, v275, (by rw [ha.out]; exact putSel_none (v := undef) rfl), (by exact Kd.R_mono (Kd.R_far (p := ⟨gb255, 1, none⟩) (Kd.R_far (p := ⟨gb255, 0, none⟩) (Kd.R_types HO262.out BK255.out (by decide)) (fun _ hk => hk.2) (.int .i64 t259)) (fun _ hk => hk.2) (.slice Ao15 t260.length co15)) (fun _ hk => trivial)), fun h0_ => absurd ((up_self b 9).symm.trans h0_) (by decide), (by refine blk_far ?_ NB264_255.out _; refine blk_far ?_ NB264_255.out _; exact BK264.out), fun h0_ => absurd ((hon 5 (by kernel_rfl)).symm.trans h0_) (by decide), (by repeat ((with_reducible first | exact HB.out | refine below_set ?_ GE255.out))), fun _ => (by exact Kd.R_mono (Kd.R_far (p := ⟨gb255, 1, none⟩) (Kd.R_far (p := ⟨gb255, 0, none⟩) (Kd.R_types HO271.out BK255.out (by decide)) (fun _ hk => hk.2) (.int .i64 t259)) (fun _ hk => hk.2) (.slice Ao15 t260.length co15)) (fun _ hk => hk.1)), fun _ h1_ => absurd ((hon 8 (by kernel_rfl)).symm.trans h1_) (by decide), fun _ => (by exact Kd.R_mono (Kd.R_far (p := ⟨gb255, 1, none⟩) (Kd.R_far (p := ⟨gb255, 0, none⟩) (Kd.R_types HO276.out BK255.out (by decide)) (fun _ hk => hk.2) (.int .i64 t259)) (fun _ hk => hk.2) (.slice Ao15 t260.length co15)) (fun _ hk => hk.1)), fun _ => (by repeat ((with_reducible first | exact HI258.out | refine IsS89.far ?_ NB258_255.out _))), fun _ => (by refine blk_put (cs := #[.int .i64 t259, .slice none 0 0]) ?_ 1 _ rfl; refine blk_put (cs := #[.int .i64 0, .slice none 0 0]) ?_ 0 _ rfl; exact BK255.out)⟩
  refine steps_cons ?_ ?_
  ·rintro b a w' ⟨v270, v275, ha, Q_HO262, Q_BK255, Q_BK264, Q_HI258, Q_HB, Q_HO271, Q_HI258_e5, Q_HO276, Q_HI258_e8, Q_BK255_e9⟩ hb_ hon hoff
   refine ⟨_, rfl, fun K hK => ?_⟩
   have e22 : a.tmps[22]? = some (.int .i64 t265) := by rw [ha]; exact (putSel_off rfl).trans rfl
   replace ha := ak ha
   have HO262 := ak Q_HO262
   have BK264 := ak Q_BK264
   have HB := ak Q_HB
   have HO271 := ak (Q_HO271 (hon 4 (by kernel_rfl)))
   have HO276 := ak (Q_HO276 (hon 7 (by kernel_rfl)))
   have HI258 := ak (Q_HI258_e8 (hon 8 (by kernel_rfl)))
   have BK255 := ak (Q_BK255_e9 (hon 9 (by kernel_rfl)))
   refine value_ (w1 := w') (v := .int .i64 t265) (by rfl) rfl ?_ ?_
   ·go_simp
    (try simp only [i64_w])
    try rfl
   refine hK.out _ _ ⟨v270, v275, (by rw [ha.out]; exact putSel_upk 5 hb_ rfl rfl rfl), Q_HO262, fun h0_ => absurd ((hon 9 (by kernel_rfl)).symm.trans h0_) (by decide), Q_BK264, fun h0_ => absurd ((hon 5 (by kernel_rfl)).symm.trans h0_) (by decide), Q_HB, Q_HO271, fun _ h1_ => absurd ((hon 8 (by kernel_rfl)).symm.trans h1_) (by decide), Q_HO276, Q_HI258_e8, Q_BK255_e9⟩
  refine steps_cons ?_ ?_
  ·rintro b a w' ⟨v270, v275, ha, Q_HO262, Q_BK255, Q_BK264, Q_HI258, Q_HB, Q_HO271, Q_HI258_e5, Q_HO276, Q_HI258_e8, Q_BK255_e9⟩ hb_ hon hoff
   refine ⟨_, rfl, fun K hK => ?_⟩
   have e23 : a.tmps[23]? = some (.int .i64 t267) := by rw [ha]; exact (putSel_off rfl).trans rfl
   replace ha := ak ha
   have HO262 := ak Q_HO262
   have BK264 := ak Q_BK264
   have HB := ak Q_HB
   have HO271 := ak (Q_HO271 (hon 4 (by kernel_rfl)))
   have HO276 := ak (Q_HO276 (hon 7 (by kernel_rfl)))
   have HI258 := ak (Q_HI258_e8 (hon 8 (by kernel_rfl)))
   have BK255 := ak (Q_BK255_e9 (hon 9 (by kernel_rfl)))
   refine value_ (w1 := w') (v := .int .i64 t267) (by rfl) rfl ?_ ?_
   ·go_simp
    (try simp only [i64_w])
    try rfl
   refine hK.out _ _ ⟨v270, v275, (by rw [ha.out]; exact putSel_upk 6 hb_ rfl rfl rfl), Q_HO262, fun h0_ => absurd ((hon 9 (by kernel_rfl)).symm.trans h0_) (by decide), Q_BK264, fun h0_ => absurd ((hon 5 (by kernel_rfl)).symm.trans h0_) (by decide), Q_HB, Q_HO271, fun _ h1_ => absurd ((hon 8 (by kernel_rfl)).symm.trans h1_) (by decide), Q_HO276, Q_HI258_e8, Q_BK255_e9⟩
  refine steps_cons ?_ ?_
  ·rintro b a w' ⟨v270, v275, ha, Q_HO262, Q_BK255, Q_BK264, Q_HI258, Q_HB, Q_HO271, Q_HI258_e5, Q_HO276, Q_HI258_e8, Q_BK255_e9⟩ hb_ hon hoff
   refine ⟨_, rfl, fun K hK => ?_⟩
   have e26 : a.tmps[26]? = some (.int .i64 t272) := by rw [ha]; exact putSel_on (e := (5, 26, .int .i64 t272)) 2 rfl rfl (hon 5 (by kernel_rfl)) rfl
   replace ha := ak ha
   have HO262 := ak Q_HO262
   have BK264 := ak Q_BK264
   have HB := ak Q_HB
   have HO271 := ak (Q_HO271 (hon 4 (by kernel_rfl)))
   have HO276 := ak (Q_HO276 (hon 7 (by kernel_rfl)))
   have HI258 := ak (Q_HI258_e8 (hon 8 (by kernel_rfl)))
   have BK255 := ak (Q_BK255_e9 (hon 9 (by kernel_rfl)))
   refine value_ (w1 := w') (v := .int .i64 t272) (by rfl) rfl ?_ ?_
   ·go_simp
    (try simp only [i64_w])
    try rfl
   refine hK.out _ _ ⟨v270, v275, (by rw [ha.out]; exact putSel_upk 7 hb_ rfl rfl rfl), Q_HO262, fun h0_ => absurd ((hon 9 (by kernel_rfl)).symm.trans h0_) (by decide), Q_BK264, fun h0_ => absurd ((hon 5 (by kernel_rfl)).symm.trans h0_) (by decide), Q_HB, Q_HO271, fun _ h1_ => absurd ((hon 8 (by kernel_rfl)).symm.trans h1_) (by decide), Q_HO276, Q_HI258_e8, Q_BK255_e9⟩
  refine steps_cons ?_ ?_
  ·rintro b a w' ⟨v270, v275, ha, Q_HO262, Q_BK255, Q_BK264, Q_HI258, Q_HB, Q_HO271, Q_HI258_e5, Q_HO276, Q_HI258_e8, Q_BK255_e9⟩ hb_ hon hoff
   refine ⟨_, rfl, fun K hK => ?_⟩
   have e29 : a.tmps[29]? = some (.int .i64 t277) := by rw [ha]; exact putSel_on (e := (8, 29, .int .i64 t277)) 4 rfl rfl (hon 8 (by kernel_rfl)) rfl
   replace ha := ak ha
   have HO262 := ak Q_HO262
   have BK264 := ak Q_BK264
   have HB := ak Q_HB
   have HO271 := ak (Q_HO271 (hon 4 (by kernel_rfl)))
   have HO276 := ak (Q_HO276 (hon 7 (by kernel_rfl)))
   have HI258 := ak (Q_HI258_e8 (hon 8 (by kernel_rfl)))
   have BK255 := ak (Q_BK255_e9 (hon 9 (by kernel_rfl)))
   refine value_ (w1 := w') (v := .int .i64 t277) (by rfl) rfl ?_ ?_
   ·go_simp
    (try simp only [i64_w])
    try rfl
   refine hK.out _ _ ⟨v270, v275, (by rw [ha.out]; exact putSel_upk 8 hb_ rfl rfl rfl), Q_HO262, fun h0_ => absurd ((hon 9 (by kernel_rfl)).symm.trans h0_) (by decide), Q_BK264, fun h0_ => absurd ((hon 5 (by kernel_rfl)).symm.trans h0_) (by decide), Q_HB, Q_HO271, fun _ h1_ => absurd ((hon 8 (by kernel_rfl)).symm.trans h1_) (by decide), Q_HO276, Q_HI258_e8, Q_BK255_e9⟩
  exact steps_nil
 rintro b a w30 hall ⟨v270, v275, ha, Q_HO262, Q_BK255, Q_BK264, Q_HI258, Q_HB, Q_HO271, Q_HI258_e5, Q_HO276, Q_HI258_e8, Q_BK255_e9⟩
 clear BK255 BK264 HB HI258 HO262
 have hb0_ := hall 0 (by kernel_rfl)
 have hb4_ := hall 4 (by kernel_rfl)
 have hb5_ := hall 5 (by kernel_rfl)
 have hb7_ := hall 7 (by kernel_rfl)
 have hb8_ := hall 8 (by kernel_rfl)
 have hb9_ := hall 9 (by kernel_rfl)
 have hb10_ := hall 10 (by kernel_rfl)
 have hb11_ := hall 11 (by kernel_rfl)
 have hb12_ := hall 12 (by kernel_rfl)
 have hb13_ := hall 13 (by kernel_rfl)
 subst ha
 simp only [putSel, hb0_, hb4_, hb5_, hb7_, hb8_, hb9_, hb10_, hb11_, hb12_, hb13_, if_true, Act.put, List.setIfInBounds_toArray, List.set_cons_zero, List.set_cons_succ]
 have HO262 := ak Q_HO262
 clear Q_HO262
 clear Q_BK255
 have BK264 := ak Q_BK264
 clear Q_BK264
 clear Q_HI258
 have HB := ak Q_HB
 clear Q_HB
 have HO271 := ak (Q_HO271 hb4_)
 clear Q_HO271
 clear Q_HI258_e5
 have HO276 := ak (Q_HO276 hb7_)
 clear Q_HO276
 have HI258 := ak (Q_HI258_e8 hb8_)
 clear Q_HI258_e8
 have BK255 := ak (Q_BK255_e9 hb9_)
 clear Q_BK255_e9
 clear hall hb0_ hb4_ hb5_ hb7_ hb8_ hb9_ hb10_ hb11_ hb12_ hb13_
 try go_wp2
 refine bodyPost_ret (results_list (rs := [.cell 2 25, .tmp 3, .tmp 4, .tmp 5, .tmp 6]) rfl (by simp) (.cell gb255 25 #[.int .i64 t259, .slice Ao15 t260.length co15] (0, 0) _ rfl (bk BK255) Try.underlying25 rfl (by kernel_rfl) (.tmp (.tmp (.tmp (.tmp .nil)))))) rfl ?_
 exact ⟨_, by rfl, rk HO262, by repeat ((with_reducible exact HB.out))⟩

end Go.Proofs.Ytddkaiegnohkcaa.F
