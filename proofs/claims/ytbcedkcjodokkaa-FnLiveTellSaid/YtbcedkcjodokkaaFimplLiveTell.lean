-- Printed by wip/px/px.py of this claim's repository (the kit's printer, extended there). Lean checks it.
import Derived.Test.YtbcedkcjodokkaaFKinds
import Derived.Test.YtbcedkcjodokkaaFimplLiveOk
import Derived.Test.YtbcedkcjodokkaaFimplNews19
import Derived.Test.YtbcedkcjodokkaaFimplLivecopied
import Derived.Test.YtbcedkcjodokkaaFimplLivefind
import Derived.Test.YtbcedkcjodokkaaFimplNews20
namespace Go.Proofs.Ytbcedkcjodokkaa.F
open Go.RowKit Go.Proofs.YtbcedkcjodokkaaW.PrintWords Go.Proofs.YtbcedkcjodokkaaW.PrintLast Go.Proofs.YtbcedkcjodokkaaW.PrintMore
attribute [local go_sem] max2_int min2_int max_two min_two max_three min_three max_four min_four   -- for this text's walks alone
set_option linter.unusedVariables false
set_option linter.unusedSimpArgs false

/-! ### impl_LiveTell: function 7 -/
def impl_LiveTell.j0 : Nat → Int → List (S65) → List (S30) → Int → List (S65) → List (S30) → Option (Int × (List (S65)) × (List (S30)) × Bool)
 | 0, _, _, _, _, _, _ => none
 | k + 1, x352000, x352001, x352002, x363000, x363001, x363002 => (impl_LiveOk.f k x363000 x363001 x363002).bind fun t375 => (if t375 = true then (some (x363000, x363001, x363002, true)) else ((impl_Live_copied.f x352000 x352001 x352002).bind fun bt376 => (some (bt376.1, bt376.2.1, bt376.2.2, false))))
def impl_LiveTell.f (k : Nat) (a0_0 : Int) (l0_1 : List (S65)) (l0_2 : List (S30)) (a1_0 : Int) (a1_1 : Int) (a1_2 : Int) : Option (Int × (List (S65)) × (List (S30)) × Bool) := (impl_LiveOk.f k a0_0 l0_1 l0_2).bind fun t354 => (if t354 = true then ((impl_Live_copied.f a0_0 l0_1 l0_2).bind fun bt355 => ((impl_Live_find.f bt355.1 bt355.2.1 bt355.2.2 a1_0).bind fun bt363 => (if bt363.2 = true then (if 0 ≤ bt363.1 then (if bt363.1 < (bt355.2.2.length : Int) then (impl_LiveTell.j0 k a0_0 l0_1 l0_2 bt355.1 bt355.2.1 (bt355.2.2.set (bt363.1 : Int).toNat (⟨a1_0, a1_1, a1_2⟩ : S30))) else (none)) else (none)) else ((impl_News_20.f bt355.2.2 bt363.1 (([(⟨a1_0, a1_1, a1_2⟩ : S30)] : List (S30)))).bind fun t369 => ((impl_News_19.f t369).bind fun t372 => (impl_LiveTell.j0 k a0_0 l0_1 l0_2 bt355.1 bt355.2.1 t372)))))) else (some (0, ([] : List (S65)), ([] : List (S30)), false)))
theorem impl_LiveTell.mono_l : ∀ k, (∀ y0 y1 y2 y3 y4 y5, LeO (impl_LiveTell.j0 k y0 y1 y2 y3 y4 y5) (impl_LiveTell.j0 (k + 1) y0 y1 y2 y3 y4 y5))
 | 0 => fun _ _ _ _ _ _ r h => by simp [impl_LiveTell.j0] at h
 | k + 1 => by
  have ih0 := impl_LiveTell.mono_l k
  ·intro y0 y1 y2 y3 y4 y5
   unfold impl_LiveTell.j0
   repeat' first | (with_reducible exact impl_LiveOk.mono _ _ _ _) | (with_reducible exact LeO.refl _) | (with_reducible refine LeO.bind ?_ (fun _ => ?_))
theorem impl_LiveTell.mono : ∀ a0 a1 a2 a3 a4 a5 k, LeO (impl_LiveTell.f k a0 a1 a2 a3 a4 a5) (impl_LiveTell.f (k + 1) a0 a1 a2 a3 a4 a5) := by
 intro a0 a1 a2 a3 a4 a5 k
 have ih0 := impl_LiveTell.mono_l k
 unfold impl_LiveTell.f
 repeat' first | (with_reducible exact ih0 _ _ _ _ _ _) | (with_reducible exact impl_LiveOk.mono _ _ _ _) | (with_reducible exact LeO.refl _) | (with_reducible refine LeO.ite ?_ ?_) | (with_reducible refine LeO.bind ?_ (fun _ => ?_))
set_option maxHeartbeats 8000000 in
set_option maxRecDepth 100000 in
theorem impl_LiveTell.calls (k : Nat) (a0_0 : Int) (A0_1 : Option Addr) (c0_1 : Nat) (l0_1 : List (S65)) (A0_2 : Option Addr) (c0_2 : Nat) (l0_2 : List (S30)) (a1_0 : Int) (a1_1 : Int) (a1_2 : Int) (r1 : Int) (r2 : List (S65)) (r3 : List (S30)) (r4 : Bool) (w : World) (hr0_1 : Kd.C k65 w A0_1 l0_1.length l0_1) (hc0_1 : l0_1.length ≤ c0_1) (hr0_2 : Kd.C k30 w A0_2 l0_2.length l0_2) (hc0_2 : l0_2.length ≤ c0_2) (h : impl_LiveTell.f k a0_0 l0_1 l0_2 a1_0 a1_1 a1_2 = some (r1, r2, r3, r4)) :
  Calls Try.prog 7 #[.agg #[.int .i64 a0_0, .slice A0_1 l0_1.length c0_1, .slice A0_2 l0_2.length c0_2], .agg #[.int .i64 a1_0, .int .i64 a1_1, .int .i64 a1_2]] w fun e w' => ∃ v1_ v2_ : Value, e = .returned (.tuple #[.agg #[.int .i64 r1, v1_, v2_], .bool r4]) ∧ Kd.R k65 65 w' w.heap.size (fun _ => True) v1_ r2 ∧ Kd.R k30 30 w' w.heap.size (fun _ => True) v2_ r3 ∧ Below w.heap.size w w' := by
 have hu28 := Try.underlying28
 have hu30 := Try.underlying30
 have HR0_1 := ak hr0_1
 have HC0_1 := ak hc0_1
 clear hr0_1 hc0_1
 have HR0_2 := ak hr0_2
 have HC0_2 := ak hc0_2
 clear hr0_2 hc0_2
 have HB := ak (Below.refl w.heap.size w)
 have H : ((impl_LiveOk.f k a0_0 l0_1 l0_2).bind fun t354 => (if t354 = true then ((impl_Live_copied.f a0_0 l0_1 l0_2).bind fun bt355 => ((impl_Live_find.f bt355.1 bt355.2.1 bt355.2.2 a1_0).bind fun bt363 => (if bt363.2 = true then (if 0 ≤ bt363.1 then (if bt363.1 < (bt355.2.2.length : Int) then (impl_LiveTell.j0 k a0_0 l0_1 l0_2 bt355.1 bt355.2.1 (bt355.2.2.set (bt363.1 : Int).toNat (⟨a1_0, a1_1, a1_2⟩ : S30))) else (none)) else (none)) else ((impl_News_20.f bt355.2.2 bt363.1 (([(⟨a1_0, a1_1, a1_2⟩ : S30)] : List (S30)))).bind fun t369 => ((impl_News_19.f t369).bind fun t372 => (impl_LiveTell.j0 k a0_0 l0_1 l0_2 bt355.1 bt355.2.1 t372)))))) else (some (0, ([] : List (S65)), ([] : List (S30)), false)))) = some (r1, r2, r3, r4) := h
 clear h
 replace H := Option.bind_eq_some_iff.mp H
 obtain ⟨t354, A30, H⟩ := H
 have A3 := ak A30
 clear A30
 by_cases c4 : t354 = true
 rotate_left
 ·replace c4 := Bool.eq_false_iff.mpr c4
  subst c4
  rw [if_neg (show ¬ (false = true) by decide)] at H
  simp only [Option.some.injEq, Prod.mk.injEq] at H
  obtain ⟨rfl, rfl, rfl, rfl⟩ := H
  go_enter Try.func7, Try.ntmps7
  go_wp2_with (first | ((with_reducible refine gate_dst (N := 2) rfl ?_); refine box_event ?hg (N := 2) ?hd (cs := #[.int .i64 a0_0, .slice A0_1 l0_1.length c0_1, .slice A0_2 l0_2.length c0_2]) (t := 28) ?hr ?_; (case hd => rfl); (case hg => rfl); (case hr => (go_simp; done)); intro gb351 hg w84 hbox hb; have BK351 := ak (hbox); have GW351 := ak ((by rw [hg]; exact (below_size (bl HB)) : w.heap.size ≤ gb351)); have GE351 := ak ((by rw [hg]; exact (below_size (bl HB)) : w.heap.size ≤ gb351)); replace HB := ak (below_step (bl HB) hb); clear hb hbox hg) | ((with_reducible refine gate_dst (N := 3) rfl ?_); refine box_event ?hg (N := 3) ?hd (cs := #[.int .i64 a1_0, .int .i64 a1_1, .int .i64 a1_2]) (t := 30) ?hr ?_; (case hd => rfl); (case hg => rfl); (case hr => (go_simp; done)); intro gb352 hg w85 hbox hb; have BK352 := ak (hbox); have GW352 := ak ((by rw [hg]; exact (below_size (bl1 HB GE351)) : w.heap.size ≤ gb352)); have GE352 := ak ((by rw [hg]; exact (below_size (bl1 HB GE351)) : w.heap.size ≤ gb352)); replace HB := ak (below_step (bl1 HB GE351) hb); have NB351_352 := ak ((by rw [hg]; exact Nat.ne_of_lt (blk_lt (bk BK351)) : gb351 ≠ gb352)); have NB352_351 := ak ((by rw [hg]; exact Nat.ne_of_gt (blk_lt (bk BK351)) : gb352 ≠ gb351)); replace BK351 := ak (blk_below (bk BK351) hb); clear hb hbox hg) | ((with_reducible refine gate_dst (N := 4) rfl ?_); refine box_event ?hg (N := 4) ?hd (cs := #[.int .i64 0, .slice none 0 0, .slice none 0 0]) (t := 28) ?hr ?_; (case hd => rfl); (case hg => rfl); (case hr => (go_simp; done)); intro gb353 hg w86 hbox hb; have BK353 := ak (hbox); have GW353 := ak ((by rw [hg]; exact (below_size (bl2 HB GE351 GE352)) : w.heap.size ≤ gb353)); have GE353 := ak ((by rw [hg]; exact (below_size (bl2 HB GE351 GE352)) : w.heap.size ≤ gb353)); replace HB := ak (below_step (bl2 HB GE351 GE352) hb); have NB351_353 := ak ((by rw [hg]; exact Nat.ne_of_lt (blk_lt (bk BK351)) : gb351 ≠ gb353)); have NB353_351 := ak ((by rw [hg]; exact Nat.ne_of_gt (blk_lt (bk BK351)) : gb353 ≠ gb351)); replace BK351 := ak (blk_below (bk BK351) hb); have NB352_353 := ak ((by rw [hg]; exact Nat.ne_of_lt (blk_lt (bk BK352)) : gb352 ≠ gb353)); have NB353_352 := ak ((by rw [hg]; exact Nat.ne_of_gt (blk_lt (bk BK352)) : gb353 ≠ gb352)); replace BK352 := ak (blk_below (bk BK352) hb); clear hb hbox hg; have hnb87 := NB351_352.out; have hnc87 := NB352_351.out; have hnb88 := NB351_353.out; have hnc88 := NB353_351.out; have hcz89_0 := bc w86 BK351 0 (.int .i64 a0_0) rfl; have hcz89_1 := bc w86 BK351 1 (.slice A0_1 l0_1.length c0_1) rfl; have hcz89_2 := bc w86 BK351 2 (.slice A0_2 l0_2.length c0_2) rfl; have hfz89_0 := fz BK351 0; have hfz89_1 := fz BK351 1; have hfz89_2 := fz BK351 2) | ((with_reducible refine gate_callee (f := 10) rfl ?_); refine goesL_ (some 10) rfl rfl Try.func10 (by kernel_rfl) rfl #[.agg #[.int .i64 a0_0, .slice A0_1 l0_1.length c0_1, .slice A0_2 l0_2.length c0_2]] rfl (by (try simp only [List.map_toArray, List.map_cons, List.map_nil]); rfl) ?_; (with_reducible refine (impl_LiveOk.calls k a0_0 _ _ l0_1 _ _ l0_2 false _ ?side1 ?side2 ?side3 ?side4 A3.out).mono ?_); (case side1 => repeat (exact (Kd.C_below HR0_1.out HB.out))); (case side2 => exact HC0_1.out); (case side3 => repeat (exact (Kd.C_below HR0_2.out HB.out))); (case side4 => exact HC0_2.out); rintro e w90 ⟨rfl, hb⟩; refine ⟨_, rfl, ?_⟩; replace BK351 := ak (blk_below (bk BK351) hb); replace BK352 := ak (blk_below (bk BK352) hb); replace BK353 := ak (blk_below (bk BK353) hb); replace HB := ak (below_step (bl3 HB GE351 GE352 GE353) hb); (try clear hb); (try clear hb2); (try clear hk); (try clear hi); have hnb91 := NB353_352.out; have hnc91 := NB352_353.out; have hcz92_0 := bc w90 BK353 0 (.int .i64 0) rfl; have hcz92_1 := bc w90 BK353 1 (.slice none 0 0) rfl; have hcz92_2 := bc w90 BK353 2 (.slice none 0 0) rfl; have hfz92_0 := fz BK353 0; have hfz92_1 := fz BK353 1; have hfz92_2 := fz BK353 2))
  refine bodyPost_ret (results_ct rfl _ _ gb353 28 #[.int .i64 0, .slice none 0 0, .slice none 0 0] (0, 0) _ rfl (by refine blk_put (cs := #[.int .i64 0, .slice none 0 0, .slice none 0 0]) ?_ 2 _ rfl; refine blk_put (cs := #[.int .i64 0, .slice none 0 0, .slice none 0 0]) ?_ 1 _ rfl; refine blk_put (cs := #[.int .i64 0, .slice none 0 0, .slice none 0 0]) ?_ 0 _ rfl; exact BK353.out) Try.underlying28 rfl (by kernel_rfl)) rfl ?_
  exact ⟨_, _, by rfl, by exact Kd.R_nil _ _ _ _ _, by exact Kd.R_nil _ _ _ _ _, bl3 HB GE351 GE352 GE353⟩
 subst c4
 rw [if_pos rfl] at H
 replace H := Option.bind_eq_some_iff.mp H
 obtain ⟨⟨t355, t356, t359⟩, A50, H⟩ := H
 have A5 := ak A50
 clear A50
 replace H := Option.bind_eq_some_iff.mp H
 obtain ⟨⟨t363, t364⟩, A60, H⟩ := H
 have A6 := ak A60
 clear A60
 have HC7 := ak H
 clear H
 go_enter Try.func7, Try.ntmps7
 go_upto_if 22 with (first | ((with_reducible refine gate_dst (N := 2) rfl ?_); refine box_event ?hg (N := 2) ?hd (cs := #[.int .i64 a0_0, .slice A0_1 l0_1.length c0_1, .slice A0_2 l0_2.length c0_2]) (t := 28) ?hr ?_; (case hd => rfl); (case hg => rfl); (case hr => (go_simp; done)); intro gb351 hg w8 hbox hb; have BK351 := ak (hbox); have GW351 := ak ((by rw [hg]; exact (below_size (bl HB)) : w.heap.size ≤ gb351)); have GE351 := ak ((by rw [hg]; exact (below_size (bl HB)) : w.heap.size ≤ gb351)); replace HB := ak (below_step (bl HB) hb); clear hb hbox hg) | ((with_reducible refine gate_dst (N := 3) rfl ?_); refine box_event ?hg (N := 3) ?hd (cs := #[.int .i64 a1_0, .int .i64 a1_1, .int .i64 a1_2]) (t := 30) ?hr ?_; (case hd => rfl); (case hg => rfl); (case hr => (go_simp; done)); intro gb352 hg w9 hbox hb; have BK352 := ak (hbox); have GW352 := ak ((by rw [hg]; exact (below_size (bl1 HB GE351)) : w.heap.size ≤ gb352)); have GE352 := ak ((by rw [hg]; exact (below_size (bl1 HB GE351)) : w.heap.size ≤ gb352)); replace HB := ak (below_step (bl1 HB GE351) hb); have NB351_352 := ak ((by rw [hg]; exact Nat.ne_of_lt (blk_lt (bk BK351)) : gb351 ≠ gb352)); have NB352_351 := ak ((by rw [hg]; exact Nat.ne_of_gt (blk_lt (bk BK351)) : gb352 ≠ gb351)); replace BK351 := ak (blk_below (bk BK351) hb); clear hb hbox hg) | ((with_reducible refine gate_dst (N := 4) rfl ?_); refine box_event ?hg (N := 4) ?hd (cs := #[.int .i64 0, .slice none 0 0, .slice none 0 0]) (t := 28) ?hr ?_; (case hd => rfl); (case hg => rfl); (case hr => (go_simp; done)); intro gb353 hg w10 hbox hb; have BK353 := ak (hbox); have GW353 := ak ((by rw [hg]; exact (below_size (bl2 HB GE351 GE352)) : w.heap.size ≤ gb353)); have GE353 := ak ((by rw [hg]; exact (below_size (bl2 HB GE351 GE352)) : w.heap.size ≤ gb353)); replace HB := ak (below_step (bl2 HB GE351 GE352) hb); have NB351_353 := ak ((by rw [hg]; exact Nat.ne_of_lt (blk_lt (bk BK351)) : gb351 ≠ gb353)); have NB353_351 := ak ((by rw [hg]; exact Nat.ne_of_gt (blk_lt (bk BK351)) : gb353 ≠ gb351)); replace BK351 := ak (blk_below (bk BK351) hb); have NB352_353 := ak ((by rw [hg]; exact Nat.ne_of_lt (blk_lt (bk BK352)) : gb352 ≠ gb353)); have NB353_352 := ak ((by rw [hg]; exact Nat.ne_of_gt (blk_lt (bk BK352)) : gb353 ≠ gb352)); replace BK352 := ak (blk_below (bk BK352) hb); clear hb hbox hg; have hnb11 := NB351_352.out; have hnc11 := NB352_351.out; have hnb12 := NB351_353.out; have hnc12 := NB353_351.out; have hcz13_0 := bc w10 BK351 0 (.int .i64 a0_0) rfl; have hcz13_1 := bc w10 BK351 1 (.slice A0_1 l0_1.length c0_1) rfl; have hcz13_2 := bc w10 BK351 2 (.slice A0_2 l0_2.length c0_2) rfl; have hfz13_0 := fz BK351 0; have hfz13_1 := fz BK351 1; have hfz13_2 := fz BK351 2) | ((with_reducible refine gate_callee (f := 10) rfl ?_); refine goesL_ (some 10) rfl rfl Try.func10 (by kernel_rfl) rfl #[.agg #[.int .i64 a0_0, .slice A0_1 l0_1.length c0_1, .slice A0_2 l0_2.length c0_2]] rfl (by (try simp only [List.map_toArray, List.map_cons, List.map_nil]); rfl) ?_; (with_reducible refine (impl_LiveOk.calls k a0_0 _ _ l0_1 _ _ l0_2 true _ ?side1 ?side2 ?side3 ?side4 A3.out).mono ?_); (case side1 => repeat (exact (Kd.C_below HR0_1.out HB.out))); (case side2 => exact HC0_1.out); (case side3 => repeat (exact (Kd.C_below HR0_2.out HB.out))); (case side4 => exact HC0_2.out); rintro e w14 ⟨rfl, hb⟩; refine ⟨_, rfl, ?_⟩; replace BK351 := ak (blk_below (bk BK351) hb); replace BK352 := ak (blk_below (bk BK352) hb); replace BK353 := ak (blk_below (bk BK353) hb); replace HB := ak (below_step (bl3 HB GE351 GE352 GE353) hb); (try clear hb); (try clear hb2); (try clear hk); (try clear hi); have hcz15_0 := bc w14 BK351 0 (.int .i64 a0_0) rfl; have hcz15_1 := bc w14 BK351 1 (.slice A0_1 l0_1.length c0_1) rfl; have hcz15_2 := bc w14 BK351 2 (.slice A0_2 l0_2.length c0_2) rfl; have hfz15_0 := fz BK351 0; have hfz15_1 := fz BK351 1; have hfz15_2 := fz BK351 2) | ((with_reducible refine gate_callee (f := 17) rfl ?_); refine goesL_ (some 14) rfl rfl Try.func17 (by kernel_rfl) rfl #[.agg #[.int .i64 a0_0, .slice A0_1 l0_1.length c0_1, .slice A0_2 l0_2.length c0_2]] rfl (by (try simp only [List.map_toArray, List.map_cons, List.map_nil]); rfl) ?_; (with_reducible refine (impl_Live_copied.calls a0_0 _ _ l0_1 _ _ l0_2 t355 t356 t359 _ ?side1 ?side2 ?side3 ?side4 A5.out).mono ?_); (case side1 => repeat (exact (Kd.C_below HR0_1.out HB.out))); (case side2 => exact HC0_1.out); (case side3 => repeat (exact (Kd.C_below HR0_2.out HB.out))); (case side4 => exact HC0_2.out); rintro e w16 ⟨v357, v360, rfl, ho0, ho1, hb⟩; refine ⟨_, rfl, ?_⟩; have HO358 := ak (Kd.R_lower ho0 (below_size (bl3 HB GE351 GE352 GE353))); have HO361 := ak (Kd.R_lower (Kd.R_newB ho1 (bk BK352)) (below_size (bl3 HB GE351 GE352 GE353))); replace BK351 := ak (blk_below (bk BK351) hb); replace BK352 := ak (blk_below (bk BK352) hb); replace BK353 := ak (blk_below (bk BK353) hb); replace HB := ak (below_step (bl3 HB GE351 GE352 GE353) hb); (try clear hb); (try clear hb2); (try clear hk); (try clear hi); (try clear ho0); (try clear ho1)) | ((with_reducible refine gate_dst (N := 6) rfl ?_); refine box_event ?hg (N := 6) ?hd (cs := #[.int .i64 0, .slice none 0 0, .slice none 0 0]) (t := 28) ?hr ?_; (case hd => rfl); (case hg => rfl); (case hr => (go_simp; done)); intro gb362 hg w17 hbox hb; replace HO358 := ak (Kd.R_below (rk HO358) hb); replace HO361 := ak (Kd.R_below (rk HO361) hb); have BK362 := ak (hbox); have GW362 := ak ((by rw [hg]; exact (below_size (bl3 HB GE351 GE352 GE353)) : w.heap.size ≤ gb362)); have GE362 := ak ((by rw [hg]; exact (below_size (bl3 HB GE351 GE352 GE353)) : w.heap.size ≤ gb362)); replace HB := ak (below_step (bl3 HB GE351 GE352 GE353) hb); have NB351_362 := ak ((by rw [hg]; exact Nat.ne_of_lt (blk_lt (bk BK351)) : gb351 ≠ gb362)); have NB362_351 := ak ((by rw [hg]; exact Nat.ne_of_gt (blk_lt (bk BK351)) : gb362 ≠ gb351)); replace BK351 := ak (blk_below (bk BK351) hb); have NB352_362 := ak ((by rw [hg]; exact Nat.ne_of_lt (blk_lt (bk BK352)) : gb352 ≠ gb362)); have NB362_352 := ak ((by rw [hg]; exact Nat.ne_of_gt (blk_lt (bk BK352)) : gb362 ≠ gb352)); replace BK352 := ak (blk_below (bk BK352) hb); have NB353_362 := ak ((by rw [hg]; exact Nat.ne_of_lt (blk_lt (bk BK353)) : gb353 ≠ gb362)); have NB362_353 := ak ((by rw [hg]; exact Nat.ne_of_gt (blk_lt (bk BK353)) : gb362 ≠ gb353)); replace BK353 := ak (blk_below (bk BK353) hb); clear hb hbox hg; have hnb18 := NB362_351.out; have hnc18 := NB351_362.out; have hnb19 := NB362_352.out; have hnc19 := NB352_362.out; have hnb20 := NB362_353.out; have hnc20 := NB353_362.out; have hcz21_0 := bc w17 BK362 0 (.int .i64 0) rfl; have hcz21_1 := bc w17 BK362 1 (.slice none 0 0) rfl; have hcz21_2 := bc w17 BK362 2 (.slice none 0 0) rfl; have hfz21_0 := fz BK362 0; have hfz21_1 := fz BK362 1; have hfz21_2 := fz BK362 2; obtain ⟨Ao22, co22, eo22⟩ := Kd.R_slice HO358.out; subst eo22; obtain ⟨Ao23, co23, eo23⟩ := Kd.R_slice HO361.out; subst eo23; have hnb24 := NB352_353.out; have hnc24 := NB353_352.out; have hcz25_0 := bc w17 BK352 0 (.int .i64 a1_0) rfl; have hcz25_1 := bc w17 BK352 1 (.int .i64 a1_1) rfl; have hcz25_2 := bc w17 BK352 2 (.int .i64 a1_2) rfl; have hfz25_0 := fz BK352 0; have hfz25_1 := fz BK352 1; have hfz25_2 := fz BK352 2) | ((with_reducible refine gate_callee (f := 18) rfl ?_); refine goesL_ (some 19) rfl rfl Try.func18 (by kernel_rfl) rfl #[.agg #[.int .i64 t355, .slice Ao22 t356.length co22, .slice Ao23 t359.length co23], .int .i64 a1_0] rfl (by (try simp only [List.map_toArray, List.map_cons, List.map_nil]); rfl) ?_; (with_reducible refine (impl_Live_find.calls t355 _ _ t356 _ _ t359 a1_0 t363 t364 _ ?side1 ?side2 ?side3 ?side4 A6.out).mono ?_); (case side1 => refine (Kd.R_reads' (e := 65) (base := w.heap.size) (ok := fun k_ => True) (n := t356.length) (c := co22) ?_).2.2; exact (by exact (Kd.R_mono (Kd.R_far (p := ⟨gb362, 2, none⟩) (Kd.R_far (p := ⟨gb362, 1, none⟩) (Kd.R_far (p := ⟨gb362, 0, none⟩) (Kd.R_types HO358.out BK362.out (by decide)) (fun _ hk => hk.2) (.int .i64 t355)) (fun _ hk => hk.2) (.slice Ao22 t356.length co22)) (fun _ hk => hk.2) (.slice Ao23 t359.length co23)) (fun _ h_ => h_.1)))); (case side2 => exact (Kd.R_reads' HO358.out).2.1); (case side3 => refine (Kd.R_reads' (e := 30) (base := w.heap.size) (ok := fun k_ => (True ∧ k_ ≠ gb352)) (n := t359.length) (c := co23) ?_).2.2; exact (by exact (Kd.R_mono (Kd.R_far (p := ⟨gb362, 2, none⟩) (Kd.R_far (p := ⟨gb362, 1, none⟩) (Kd.R_far (p := ⟨gb362, 0, none⟩) (Kd.R_types HO361.out BK362.out (by decide)) (fun _ hk => hk.2) (.int .i64 t355)) (fun _ hk => hk.2) (.slice Ao22 t356.length co22)) (fun _ hk => hk.2) (.slice Ao23 t359.length co23)) (fun _ h_ => h_.1)))); (case side4 => exact (Kd.R_reads' HO361.out).2.1); rintro e w26 ⟨rfl, hb⟩; refine ⟨_, rfl, ?_⟩; replace HO358 := ak (Kd.R_below (by exact (Kd.R_mono (Kd.R_far (p := ⟨gb362, 2, none⟩) (Kd.R_far (p := ⟨gb362, 1, none⟩) (Kd.R_far (p := ⟨gb362, 0, none⟩) (Kd.R_types HO358.out BK362.out (by decide)) (fun _ hk => hk.2) (.int .i64 t355)) (fun _ hk => hk.2) (.slice Ao22 t356.length co22)) (fun _ hk => hk.2) (.slice Ao23 t359.length co23)) (fun _ h_ => h_.1))) hb); replace HO361 := ak (Kd.R_below (by exact (Kd.R_mono (Kd.R_far (p := ⟨gb362, 2, none⟩) (Kd.R_far (p := ⟨gb362, 1, none⟩) (Kd.R_far (p := ⟨gb362, 0, none⟩) (Kd.R_types HO361.out BK362.out (by decide)) (fun _ hk => hk.2) (.int .i64 t355)) (fun _ hk => hk.2) (.slice Ao22 t356.length co22)) (fun _ hk => hk.2) (.slice Ao23 t359.length co23)) (fun _ h_ => h_.1))) hb); replace BK351 := ak (blk_below (g := gb351) (o := .cells #[.int .i64 a0_0, .slice A0_1 l0_1.length c0_1, .slice A0_2 l0_2.length c0_2] 28 (0, 0)) (by refine blk_far ?_ NB351_362.out _; refine blk_far ?_ NB351_362.out _; refine blk_far ?_ NB351_362.out _; exact BK351.out) hb); replace BK352 := ak (blk_below (g := gb352) (o := .cells #[.int .i64 a1_0, .int .i64 a1_1, .int .i64 a1_2] 30 (0, 0)) (by refine blk_far ?_ NB352_362.out _; refine blk_far ?_ NB352_362.out _; refine blk_far ?_ NB352_362.out _; exact BK352.out) hb); replace BK353 := ak (blk_below (g := gb353) (o := .cells #[.int .i64 0, .slice none 0 0, .slice none 0 0] 28 (0, 0)) (by refine blk_far ?_ NB353_362.out _; refine blk_far ?_ NB353_362.out _; refine blk_far ?_ NB353_362.out _; exact BK353.out) hb); replace BK362 := ak (blk_below (g := gb362) (o := .cells #[.int .i64 t355, .slice Ao22 t356.length co22, .slice Ao23 t359.length co23] 28 (0, 0)) (by refine blk_put (cs := #[.int .i64 t355, .slice Ao22 t356.length co22, .slice none 0 0]) ?_ 2 _ rfl; refine blk_put (cs := #[.int .i64 t355, .slice none 0 0, .slice none 0 0]) ?_ 1 _ rfl; refine blk_put (cs := #[.int .i64 0, .slice none 0 0, .slice none 0 0]) ?_ 0 _ rfl; exact BK362.out) hb); replace HB := ak (below_step (bl4 HB GE351 GE352 GE353 GE362) hb); (try clear hb); (try clear hb2); (try clear hk); (try clear hi)))
 (try simp only [Act.put, List.setIfInBounds_toArray, List.set_cons_zero, List.set_cons_succ])
 go_cut [] (fun wc => ∃ (kq : Nat) (x353000_6 : Int) (x353001_6 : Int) (x353002_6 : Int) (x363002_6 : List (S30)) (u363002 : Value), Aside0 (impl_LiveTell.j0 kq a0_0 l0_1 l0_2 t355 t356 x363002_6 = some (r1, r2, r3, r4)) ∧ Aside0 (kq ≤ k) ∧ Aside0 (Kd.R k65 65 wc w.heap.size (fun _ => True) (.slice Ao22 t356.length co22) t356) ∧ Aside0 (Kd.R k30 30 wc w.heap.size (fun k_ => k_ ≠ gb352) u363002 x363002_6) ∧ Aside0 (wc.heap[gb351]? = some (.cells #[.int .i64 a0_0, (.slice A0_1 l0_1.length c0_1), (.slice A0_2 l0_2.length c0_2)] 28 (0, 0))) ∧ Aside0 (wc.heap[gb352]? = some (.cells #[.int .i64 x353000_6, .int .i64 x353001_6, .int .i64 x353002_6] 30 (0, 0))) ∧ Aside0 (wc.heap[gb353]? = some (.cells #[.int .i64 0, (.slice none 0 0), (.slice none 0 0)] 28 (0, 0))) ∧ Aside0 (wc.heap[gb362]? = some (.cells #[.int .i64 t355, (.slice Ao22 t356.length co22), u363002] 28 (0, 0))) ∧ Aside0 (Below w.heap.size w wc))
 case first =>
  have H := HC7.out
  clear HC7
  by_cases c27 : t364 = true
  ·subst c27
   rw [if_pos rfl] at H
   by_cases c28 : 0 ≤ t363
   rotate_left
   ·rw [if_neg c28] at H
    exact absurd H (by simp)
   rw [if_pos c28] at H
   have c28b0 : decide (0 ≤ t363) = true := decide_eq_true c28
   clear c28
   (skip)
   by_cases c29 : t363 < (t359.length : Int)
   rotate_left
   ·rw [if_neg c29] at H
    exact absurd H (by simp)
   rw [if_pos c29] at H
   have c29b0 : decide (t363 < (t359.length : Int)) = true := decide_eq_true c29
   clear c29
   obtain ⟨y365, hy365⟩ : ∃ y_ : List (S30), y_ = (t359.set (t363 : Int).toNat (⟨a1_0, a1_1, a1_2⟩ : S30)) := ⟨_, rfl⟩
   replace H : (impl_LiveTell.j0 k a0_0 l0_1 l0_2 t355 t356 y365) = some (r1, r2, r3, r4) := by (rw [hy365]; with_reducible exact H)
   have Ny365 := ak hy365
   clear hy365
   have H' := ak H
   clear H
   have hnb31 := NB362_351.out
   have hnc31 := NB351_362.out
   have hnb32 := NB362_352.out
   have hnc32 := NB352_362.out
   have hnb33 := NB362_353.out
   have hnc33 := NB353_362.out
   have hcz34_0 := bc w26 BK362 0 (.int .i64 t355) rfl
   have hcz34_1 := bc w26 BK362 1 (.slice Ao22 t356.length co22) rfl
   have hcz34_2 := bc w26 BK362 2 (.slice Ao23 t359.length co23) rfl
   have hfz34_0 := fz BK362 0
   have hfz34_1 := fz BK362 1
   have hfz34_2 := fz BK362 2
   have hnb35 := NB352_351.out
   have hnc35 := NB351_352.out
   have hnb36 := NB352_353.out
   have hnc36 := NB353_352.out
   have hcz37_0 := bc w26 BK352 0 (.int .i64 a1_0) rfl
   have hcz37_1 := bc w26 BK352 1 (.int .i64 a1_1) rfl
   have hcz37_2 := bc w26 BK352 2 (.int .i64 a1_2) rfl
   have hfz37_0 := fz BK352 0
   have hfz37_1 := fz BK352 1
   have hfz37_2 := fz BK352 2
   have p30 : 0 ≤ (t363 : Int) := oT (by (with_reducible assumption))
   have q30 : (t363 : Int) < ((t359.length : Int) : Int) := oT (by (with_reducible assumption))
   obtain ⟨go30, co30, eo30, gb30, gl30, cl30, HG30⟩ := Kd.R_form HO361.out (by omega)
   (cases eo30)
   have GB30 := ak gb30
   have GG30 := ak HG30
   clear gb30 gl30 HG30
   obtain ⟨ce30, hcl30, hM30, hcc30, hfr30⟩ := Kd.R_elem HO361.out z30 (t363 : Int) p30 q30
   obtain rfl := k30_openM hM30
   have hx30_0 : w26.cell? ⟨go30, (t363 : Int).toNat * 3, none⟩ = some (.int .i64 ((rd_T30 t359 t363).f0)) := hcc30 0 _ rfl
   have hx30_1 : w26.cell? ⟨go30, (t363 : Int).toNat * 3 + 1, none⟩ = some (.int .i64 ((rd_T30 t359 t363).f1)) := hcc30 1 _ rfl
   have hx30_2 : w26.cell? ⟨go30, (t363 : Int).toNat * 3 + 2, none⟩ = some (.int .i64 ((rd_T30 t359 t363).f2)) := hcc30 2 _ rfl
   have hf30_0 : w26.frozen? ⟨go30, (t363 : Int).toNat * 3, none⟩ = false := hfr30 0
   have hf30_1 : w26.frozen? ⟨go30, (t363 : Int).toNat * 3 + 1, none⟩ = false := hfr30 1
   have hf30_2 : w26.frozen? ⟨go30, (t363 : Int).toNat * 3 + 2, none⟩ = false := hfr30 2
   clear hcl30 hcc30 hfr30 hM30
   replace p30 := eq_true p30
   replace q30 := eq_true q30
   have n_ := ak (Kd.R_mono (ok' := (fun k_ => k_ ≠ gb352)) HO361.out (fun k_ hk => hk.2))
   clear HO361
   have HO361 := n_
   clear n_
   have HX38 := ak (show Kd.R k30 30 w26 w.heap.size (fun k_ => k_ ≠ gb352) (.slice (some ⟨go30, 0, none⟩) t359.length co23) t359 from (rk HO361))
   obtain ⟨ce38, hcl38, hM38, hcc38, hfr38⟩ := Kd.R_elem HX38.out z30 (t363 : Int) (oT (by (with_reducible assumption))) (by have h_ : (t363 : Int) < ((t359.length : Int) : Int) := oT (by (with_reducible assumption)); exact h_)
   obtain rfl := k30_openM hM38
   have HP38 := Kd.R_seg HX38.out (t363 : Int) (oT (by (with_reducible assumption))) (by have h_ : (t363 : Int) < ((t359.length : Int) : Int) := oT (by (with_reducible assumption)); exact h_) (seg := [.int .i64 a1_0, .int .i64 a1_1, .int .i64 a1_2]) (j := 0) hcl38 hcc38 (show 3 ≤ 3 from by decide) (x' := (⟨a1_0, a1_1, a1_2⟩ : S30)) (k30_mkM _ _ _ (⟨a1_0, a1_1, a1_2⟩ : S30) ) (fun _ hk => hk)
   have hx38_0 := hcc38 0 _ rfl
   (try simp only [show (k30).sz = 3 from rfl, Nat.mul_one, Nat.add_zero] at hx38_0)
   have hf38_0 := hfr38 0
   (try simp only [show (k30).sz = 3 from rfl, Nat.mul_one, Nat.add_zero] at hf38_0)
   have hx38_1 := hcc38 1 _ rfl
   (try simp only [show (k30).sz = 3 from rfl, Nat.mul_one, Nat.add_zero] at hx38_1)
   have hf38_1 := hfr38 1
   (try simp only [show (k30).sz = 3 from rfl, Nat.mul_one, Nat.add_zero] at hf38_1)
   have hx38_2 := hcc38 2 _ rfl
   (try simp only [show (k30).sz = 3 from rfl, Nat.mul_one, Nat.add_zero] at hx38_2)
   have hf38_2 := hfr38 2
   (try simp only [show (k30).sz = 3 from rfl, Nat.mul_one, Nat.add_zero] at hf38_2)
   clear hcl38 hcc38 hfr38 hM38
   go_wp2_with (((with_reducible refine gate_store (t := 30) (p := 27) rfl ?_); refine store_event (t := 30) (p := 27) (v := ?vo_w39) (w1 := (((w26.setCell ⟨go30, (t363 : Int).toNat * 3, none⟩ (.int .i64 a1_0)).setCell ⟨go30, (t363 : Int).toNat * 3 + 1, none⟩ (.int .i64 a1_1)).setCell ⟨go30, (t363 : Int).toNat * 3 + 2, none⟩ (.int .i64 a1_2))) ?hg ?ho ?hn ?hr ?_; (case ho => rfl); (case hg => rfl); (case hn => rfl); (case hr => (go_simp; done)); intro w39 hw; have hg : w26.grownBy w39 (some go30) := (by rw [hw]; exact HP38.2); have hp_ : Kd.R k30 30 w39 w.heap.size (fun k_ => k_ ≠ gb352) (.slice (some ⟨go30, 0, none⟩) t359.length co23) y365 := (by rw [hw, Ny365.out]; exact HP38.1); clear HP38; replace BK351 := ak (blk_grown (bk BK351) hg (Kd.R_ne HO361.out BK351.out (by decide))); replace BK352 := ak (blk_grown (bk BK352) hg (Kd.R_away HO361.out (fun _ hk => hk))); replace BK353 := ak (blk_grown (bk BK353) hg (Kd.R_ne HO361.out BK353.out (by decide))); replace HO358 := ak (Kd.R_over' (v := (.slice (some ⟨go30, 0, none⟩) t359.length co23)) (rk HO358) (Kd.R_typed HO361.out) (by decide) hg); replace BK362 := ak (blk_grown (bk BK362) hg (Kd.R_ne HO361.out BK362.out (by decide))); replace HO361 := ak (hp_); replace HB := ak ((by rw [hw]; exact below_set (below_set (below_set (HB.out) GB30.out) GB30.out) GB30.out : Below w.heap.size w w39)); clear hg hw hp_))
   go_meet
   case rel => exact ⟨_, (a1_0), (a1_1), (a1_2), (y365), (.slice (some ⟨go30, 0, none⟩) t359.length co23), H', ⟨by omega⟩, ⟨rk HO358⟩, ⟨rk HO361⟩, ⟨bk BK351⟩, ⟨bk BK352⟩, ⟨bk BK353⟩, ⟨bk BK362⟩, ⟨bl4 HB GE351 GE352 GE353 GE362⟩⟩
  replace c27 := Bool.eq_false_iff.mpr c27
  subst c27
  rw [if_neg (show ¬ (false = true) by decide)] at H
  obtain ⟨y366, hy366⟩ : ∃ y_ : List (S30), y_ = (([(⟨a1_0, a1_1, a1_2⟩ : S30)] : List (S30))) := ⟨_, rfl⟩
  replace H : ((impl_News_20.f t359 t363 y366).bind fun t369 => ((impl_News_19.f t369).bind fun t372 => (impl_LiveTell.j0 k a0_0 l0_1 l0_2 t355 t356 t372))) = some (r1, r2, r3, r4) := by (rw [hy366]; with_reducible exact H)
  have Ny366 := ak hy366
  clear hy366
  replace H := Option.bind_eq_some_iff.mp H
  obtain ⟨t369, A400, H⟩ := H
  have A40 := ak A400
  clear A400
  replace H := Option.bind_eq_some_iff.mp H
  obtain ⟨t372, A410, H⟩ := H
  have A41 := ak A410
  clear A410
  have H' := ak H
  clear H
  have hnb42 := NB362_351.out
  have hnc42 := NB351_362.out
  have hnb43 := NB362_352.out
  have hnc43 := NB352_362.out
  have hnb44 := NB362_353.out
  have hnc44 := NB353_362.out
  have hcz45_0 := bc w26 BK362 0 (.int .i64 t355) rfl
  have hcz45_1 := bc w26 BK362 1 (.slice Ao22 t356.length co22) rfl
  have hcz45_2 := bc w26 BK362 2 (.slice Ao23 t359.length co23) rfl
  have hfz45_0 := fz BK362 0
  have hfz45_1 := fz BK362 1
  have hfz45_2 := fz BK362 2
  have hnb46 := NB352_351.out
  have hnc46 := NB351_352.out
  have hnb47 := NB352_353.out
  have hnc47 := NB353_352.out
  have hcz48_0 := bc w26 BK352 0 (.int .i64 a1_0) rfl
  have hcz48_1 := bc w26 BK352 1 (.int .i64 a1_1) rfl
  have hcz48_2 := bc w26 BK352 2 (.int .i64 a1_2) rfl
  have hfz48_0 := fz BK352 0
  have hfz48_1 := fz BK352 1
  have hfz48_2 := fz BK352 2
  go_wp2_with (first | ((with_reducible refine gate_dst (N := 32) rfl ?_); refine Kd.R_lit k30 _ 30 ?hg (N := 32) ?hd (xs := ([(⟨a1_0, a1_1, a1_2⟩ : S30)] : List (S30))) (inner := [.int .i64 a1_0, .int .i64 a1_1, .int .i64 a1_2]) (ok := fun _ => True) (okp := fun _ => True) ?hr ?hp (fun _ hk => hk) trivial (Below.refl _ _) (Nat.le_refl _) (by simp) ?_; (case hd => rfl); (case hg => rfl); (case hr => (go_simp; done)); (case hp => exact (Reps.c3 (show Kd.M k30 _ _ _ (⟨a1_0, a1_1, a1_2⟩ : S30) [.int .i64 a1_0, .int .i64 a1_1, .int .i64 a1_2] from (k30_mkM _ _ _ (⟨a1_0, a1_1, a1_2⟩ : S30) )) (Reps.none _ _))); intro v367 w49 ho50 hb hg_ hnew_; clear hg_ hnew_; (rw [← Ny366.out] at ho50); replace HO358 := ak (Kd.R_below (rk HO358) hb); have HO368 := ak (Kd.R_lower (Kd.R_newB (Kd.R_new' ho50 (Kd.R_lt (rk HO361))) (bk BK352)) (below_size (bl4 HB GE351 GE352 GE353 GE362))); replace HO361 := ak (Kd.R_elder' (rk HO361) (Kd.R_base ho50) hb); replace BK351 := ak (blk_below (bk BK351) hb); replace BK352 := ak (blk_below (bk BK352) hb); replace BK353 := ak (blk_below (bk BK353) hb); replace BK362 := ak (blk_below (bk BK362) hb); replace HB := ak (below_step (bl4 HB GE351 GE352 GE353 GE362) hb); clear hb ho50; obtain ⟨Ao51, co51, eo51⟩ := Kd.R_slice HO368.out; subst eo51) | ((with_reducible refine gate_callee (f := 20) rfl ?_); refine goesL_ (some 33) rfl rfl Try.func20 (by kernel_rfl) rfl #[.slice Ao23 t359.length co23, .int .i64 t363, .slice Ao51 y366.length co51] rfl (by (try simp only [List.map_toArray, List.map_cons, List.map_nil]); rfl) ?_; (with_reducible refine (impl_News_20.calls (fun k_ => some k_ = (.slice Ao23 t359.length co23 : Value).ownBlock) (.slice Ao23 t359.length co23) t359 t363 (fun k_ => some k_ = (.slice Ao51 y366.length co51 : Value).ownBlock) (.slice Ao51 y366.length co51) y366 t369 w _ ?side1 ?side2 ?side3 ?side4 ?side5 A40.out).mono ?_); (case side1 => repeat ((with_reducible exact HB.out))); (case side2 => exact Kd.R_tight rfl HO361.out); (case side3 => exact fun k_ e_ => (HO361.out.1 k_ e_.symm).2); (case side4 => exact Kd.R_tight rfl HO368.out); (case side5 => exact fun k_ e_ => (HO368.out.1 k_ e_.symm).1.2); rintro e w52 ⟨v370, rfl, ho0, hb, hkp⟩; refine ⟨_, rfl, ?_⟩; have n0_ := ak (blk_kept (bk BK351) hkp (fun hs_ => Or.elim hs_ (fun e_ => (fun e_ => (Kd.R_ne HO361.out BK351.out (by decide)) e_) e_) (fun e_ => (fun e_ => (Kd.R_ne HO368.out BK351.out (by decide)) e_) e_))); have n1_ := ak (blk_kept (bk BK352) hkp (fun hs_ => Or.elim hs_ (fun e_ => (fun e_ => (Kd.R_away HO361.out (fun _ hk => hk.1.2)) e_) e_) (fun e_ => (fun e_ => (Kd.R_away HO368.out (fun _ hk => hk.2)) e_) e_))); have n2_ := ak (blk_kept (bk BK353) hkp (fun hs_ => Or.elim hs_ (fun e_ => (fun e_ => (Kd.R_ne HO361.out BK353.out (by decide)) e_) e_) (fun e_ => (fun e_ => (Kd.R_ne HO368.out BK353.out (by decide)) e_) e_))); have n3_ := ak (Kd.R_mono (ok' := fun k_ => True) (Kd.R_keptB ((Kd.R_apart' (Kd.R_apart' HO358.out (Kd.R_typed HO361.out) (by decide)) (Kd.R_typed HO368.out) (by decide))) hkp (fun k_ hk_ hs_ => Or.elim hs_ (fun e_ => (hk_.1.2) e_) (fun e_ => (hk_.2) e_))) (fun k_ hk_ => trivial)); have n4_ := ak (blk_kept (bk BK362) hkp (fun hs_ => Or.elim hs_ (fun e_ => (fun e_ => (Kd.R_ne HO361.out BK362.out (by decide)) e_) e_) (fun e_ => (fun e_ => (Kd.R_ne HO368.out BK362.out (by decide)) e_) e_))); have n5_ := ak (Kd.R_mono (ok' := fun k_ => k_ ≠ gb352) ho0 (fun k_ hk_ => Or.elim hk_ (fun hs_ => Or.elim hs_ (fun hs_ => fun e_ => (Kd.R_away HO361.out (fun _ hk => hk.1.2)) (by rw [← e_]; exact hs_)) (fun hs_ => fun e_ => (Kd.R_away HO368.out (fun _ hk => hk.2)) (by rw [← e_]; exact hs_))) (fun hn_ => (Kd.freshB (bk BK352) k_ hn_)))); have n6_ := ak (hb); clear BK351; clear BK352; clear BK353; clear HO358; clear BK362; clear HB; clear HO361; clear HO368; have BK351 := n0_; have BK352 := n1_; have BK353 := n2_; have HO358 := n3_; have BK362 := n4_; have HO371 := n5_; have HB := n6_; clear n0_ n1_ n2_ n3_ n4_ n5_ n6_; (try clear hb); (try clear hkp); (try clear ho0); obtain ⟨Ao53, co53, eo53⟩ := Kd.R_slice HO371.out; subst eo53) | ((with_reducible refine gate_callee (f := 19) rfl ?_); refine goesL_ (some 34) rfl rfl Try.func19 (by kernel_rfl) rfl #[.slice Ao53 t369.length co53] rfl (by (try simp only [List.map_toArray, List.map_cons, List.map_nil]); rfl) ?_; (with_reducible refine (impl_News_19.calls (fun k_ => some k_ = (.slice Ao53 t369.length co53 : Value).ownBlock) (.slice Ao53 t369.length co53) t369 t372 w _ ?side1 ?side2 A41.out).mono ?_); (case side1 => repeat ((with_reducible exact HB.out))); (case side2 => exact Kd.R_tight rfl HO371.out); rintro e w54 ⟨v373, rfl, ho0, hb, hkp⟩; refine ⟨_, rfl, ?_⟩; have n0_ := ak (blk_kept (bk BK351) hkp (fun hs_ => (fun e_ => (Kd.R_ne HO371.out BK351.out (by decide)) e_) hs_)); have n1_ := ak (blk_kept (bk BK352) hkp (fun hs_ => (fun e_ => (Kd.R_away HO371.out (fun _ hk => hk)) e_) hs_)); have n2_ := ak (blk_kept (bk BK353) hkp (fun hs_ => (fun e_ => (Kd.R_ne HO371.out BK353.out (by decide)) e_) hs_)); have n3_ := ak (Kd.R_mono (ok' := fun k_ => True) (Kd.R_keptB ((Kd.R_apart' HO358.out (Kd.R_typed HO371.out) (by decide))) hkp (fun k_ hk_ hs_ => (hk_.2) hs_)) (fun k_ hk_ => trivial)); have n4_ := ak (blk_kept (bk BK362) hkp (fun hs_ => (fun e_ => (Kd.R_ne HO371.out BK362.out (by decide)) e_) hs_)); have n5_ := ak (Kd.R_mono (ok' := fun k_ => k_ ≠ gb352) ho0 (fun k_ hk_ => Or.elim hk_ (fun hs_ => fun e_ => (Kd.R_away HO371.out (fun _ hk => hk)) (by rw [← e_]; exact hs_)) (fun hn_ => (Kd.freshB (bk BK352) k_ hn_)))); have n6_ := ak (hb); clear BK351; clear BK352; clear BK353; clear HO358; clear BK362; clear HB; clear HO371; have BK351 := n0_; have BK352 := n1_; have BK353 := n2_; have HO358 := n3_; have BK362 := n4_; have HO374 := n5_; have HB := n6_; clear n0_ n1_ n2_ n3_ n4_ n5_ n6_; (try clear hb); (try clear hkp); (try clear ho0); obtain ⟨Ao55, co55, eo55⟩ := Kd.R_slice HO374.out; subst eo55; have hcz56_0 := bc w54 BK362 0 (.int .i64 t355) rfl; have hcz56_1 := bc w54 BK362 1 (.slice Ao22 t356.length co22) rfl; have hcz56_2 := bc w54 BK362 2 (.slice Ao23 t359.length co23) rfl; have hfz56_0 := fz BK362 0; have hfz56_1 := fz BK362 1; have hfz56_2 := fz BK362 2))
  go_meet
  case rel => exact ⟨_, (a1_0), (a1_1), (a1_2), (t372), (.slice Ao55 t372.length co55), H', ⟨by omega⟩, ⟨by exact Kd.R_mono (Kd.R_far (p := ⟨gb362, 2, none⟩) (Kd.R_types HO358.out BK362.out (by decide)) (fun _ hk => hk.2) (.slice Ao55 t372.length co55)) (fun _ hk => trivial)⟩, ⟨by exact Kd.R_mono (Kd.R_far (p := ⟨gb362, 2, none⟩) (Kd.R_types HO374.out BK362.out (by decide)) (fun _ hk => hk.2) (.slice Ao55 t372.length co55)) (fun _ hk => hk.1)⟩, ⟨by refine blk_far ?_ NB351_362.out _; exact BK351.out⟩, ⟨by refine blk_far ?_ NB352_362.out _; exact BK352.out⟩, ⟨by refine blk_far ?_ NB353_362.out _; exact BK353.out⟩, ⟨by refine blk_put (cs := #[.int .i64 t355, .slice Ao22 t356.length co22, .slice Ao23 t359.length co23]) ?_ 2 _ rfl; exact BK362.out⟩, ⟨bl4 HB GE351 GE352 GE353 GE362⟩⟩
 clear HC7
 try clear c1
 try clear c2
 try clear p2
 try clear c3
 try clear p3
 try clear q3
 try clear hx3
 try clear hf3
 try clear c4
 try clear c7
 try clear c10
 try clear c11
 try clear c12
 try clear c17
 try clear c18
 try clear c19
 try clear c20
 try clear c24
 try clear c27
 try clear c28
 try clear c28b0
 try clear c29
 try clear c29b0
 try clear c30
 try clear p30
 try clear q30
 try clear hx30
 try clear hf30
 try clear c31
 try clear c32
 try clear c33
 try clear c35
 try clear c36
 try clear c38
 try clear hx38
 try clear hf38
 try clear c42
 try clear c43
 try clear c44
 try clear c46
 try clear c47
 try clear hcz13_0
 try clear hcz13_1
 try clear hcz13_2
 try clear hcz15_0
 try clear hcz15_1
 try clear hcz15_2
 try clear hcz21_0
 try clear hcz21_1
 try clear hcz21_2
 try clear hcz25_0
 try clear hcz25_1
 try clear hcz25_2
 try clear hcz34_0
 try clear hcz34_1
 try clear hcz34_2
 try clear hcz37_0
 try clear hcz37_1
 try clear hcz37_2
 try clear hcz45_0
 try clear hcz45_1
 try clear hcz45_2
 try clear hcz48_0
 try clear hcz48_1
 try clear hcz48_2
 try clear hcz56_0
 try clear hcz56_1
 try clear hcz56_2
 try clear hfz13_0
 try clear hfz13_1
 try clear hfz13_2
 try clear hfz15_0
 try clear hfz15_1
 try clear hfz15_2
 try clear hfz21_0
 try clear hfz21_1
 try clear hfz21_2
 try clear hfz25_0
 try clear hfz25_1
 try clear hfz25_2
 try clear hfz34_0
 try clear hfz34_1
 try clear hfz34_2
 try clear hfz37_0
 try clear hfz37_1
 try clear hfz37_2
 try clear hfz45_0
 try clear hfz45_1
 try clear hfz45_2
 try clear hfz48_0
 try clear hfz48_1
 try clear hfz48_2
 try clear hfz56_0
 try clear hfz56_1
 try clear hfz56_2
 try clear hx30_0
 try clear hx30_1
 try clear hx30_2
 try clear hx38_0
 try clear hx38_1
 try clear hx38_2
 try clear p30
 try clear q30
 obtain ⟨kq, x353000_6, x353001_6, x353002_6, x363002_6, u363002, HA, HJ6, HO_363001, HO_363002, BK351, BK352, BK353, BK362, HB⟩ := hcut
 cases kq with
 | zero => exact absurd HA.out (by simp [impl_LiveTell.j0])
 | succ kj6 =>
  have H := HA.out
  clear HA
  simp only [impl_LiveTell.j0] at H
  replace H := Option.bind_eq_some_iff.mp H
  obtain ⟨t375, A570, H⟩ := H
  have A57 := ak A570
  clear A570
  by_cases c58 : t375 = true
  ·subst c58
   rw [if_pos rfl] at H
   simp only [Option.some.injEq, Prod.mk.injEq] at H
   obtain ⟨rfl, rfl, rfl, rfl⟩ := H
   have hnb59 := NB362_351.out
   have hnc59 := NB351_362.out
   have hnb60 := NB362_352.out
   have hnc60 := NB352_362.out
   have hnb61 := NB362_353.out
   have hnc61 := NB353_362.out
   have hcz62_0 := bc wc BK362 0 (.int .i64 t355) rfl
   have hcz62_1 := bc wc BK362 1 (.slice Ao22 t356.length co22) rfl
   have hcz62_2 := bc wc BK362 2 (u363002) rfl
   have hfz62_0 := fz BK362 0
   have hfz62_1 := fz BK362 1
   have hfz62_2 := fz BK362 2
   obtain ⟨Ao63, co63, eo63⟩ := Kd.R_slice HO_363002.out
   subst eo63
   go_wp2_with (((with_reducible refine gate_callee (f := 10) rfl ?_); refine goesL_ (some 37) rfl rfl Try.func10 (by kernel_rfl) rfl #[.agg #[.int .i64 t355, .slice Ao22 t356.length co22, .slice Ao63 x363002_6.length co63]] rfl (by (try simp only [List.map_toArray, List.map_cons, List.map_nil]); rfl) ?_; (with_reducible refine (impl_LiveOk.calls kj6 t355 _ _ t356 _ _ x363002_6 true _ ?side1 ?side2 ?side3 ?side4 A57.out).mono ?_); (case side1 => repeat (exact (Kd.R_reads' HO_363001.out).2.2)); (case side2 => exact (Kd.R_reads' HO_363001.out).2.1); (case side3 => repeat (exact (Kd.R_reads' HO_363002.out).2.2)); (case side4 => exact (Kd.R_reads' HO_363002.out).2.1); rintro e w64 ⟨rfl, hb⟩; refine ⟨_, rfl, ?_⟩; replace HO_363001 := ak (Kd.R_below (rk HO_363001) hb); replace HO_363002 := ak (Kd.R_below (rk HO_363002) hb); replace BK351 := ak (blk_below (bk BK351) hb); replace BK352 := ak (blk_below (bk BK352) hb); replace BK353 := ak (blk_below (bk BK353) hb); replace BK362 := ak (blk_below (bk BK362) hb); replace HB := ak (below_step (bl4 HB GE351 GE352 GE353 GE362) hb); (try clear hb); (try clear hb2); (try clear hk); (try clear hi); have hcz65_0 := bc w64 BK362 0 (.int .i64 t355) rfl; have hcz65_1 := bc w64 BK362 1 (.slice Ao22 t356.length co22) rfl; have hcz65_2 := bc w64 BK362 2 (.slice Ao63 x363002_6.length co63) rfl; have hfz65_0 := fz BK362 0; have hfz65_1 := fz BK362 1; have hfz65_2 := fz BK362 2; have hnb66 := NB353_351.out; have hnc66 := NB351_353.out; have hnb67 := NB353_352.out; have hnc67 := NB352_353.out; have hcz68_0 := bc w64 BK353 0 (.int .i64 0) rfl; have hcz68_1 := bc w64 BK353 1 (.slice none 0 0) rfl; have hcz68_2 := bc w64 BK353 2 (.slice none 0 0) rfl; have hfz68_0 := fz BK353 0; have hfz68_1 := fz BK353 1; have hfz68_2 := fz BK353 2))
   refine bodyPost_ret (results_ct rfl _ _ gb353 28 #[.int .i64 t355, .slice Ao22 t356.length co22, .slice Ao63 x363002_6.length co63] (0, 0) _ rfl (by refine blk_put (cs := #[.int .i64 t355, .slice Ao22 t356.length co22, .slice none 0 0]) ?_ 2 _ rfl; refine blk_put (cs := #[.int .i64 t355, .slice none 0 0, .slice none 0 0]) ?_ 1 _ rfl; refine blk_put (cs := #[.int .i64 0, .slice none 0 0, .slice none 0 0]) ?_ 0 _ rfl; exact BK353.out) Try.underlying28 rfl (by kernel_rfl)) rfl ?_
   exact ⟨_, _, by rfl, by exact Kd.R_mono (Kd.R_far (p := ⟨gb353, 2, none⟩) (Kd.R_far (p := ⟨gb353, 1, none⟩) (Kd.R_far (p := ⟨gb353, 0, none⟩) (Kd.R_types HO_363001.out BK353.out (by decide)) (fun _ hk => hk.2) (.int .i64 t355)) (fun _ hk => hk.2) (.slice Ao22 t356.length co22)) (fun _ hk => hk.2) (.slice Ao63 x363002_6.length co63)) (fun _ hk => trivial), by exact Kd.R_mono (Kd.R_far (p := ⟨gb353, 2, none⟩) (Kd.R_far (p := ⟨gb353, 1, none⟩) (Kd.R_far (p := ⟨gb353, 0, none⟩) (Kd.R_types HO_363002.out BK353.out (by decide)) (fun _ hk => hk.2) (.int .i64 t355)) (fun _ hk => hk.2) (.slice Ao22 t356.length co22)) (fun _ hk => hk.2) (.slice Ao63 x363002_6.length co63)) (fun _ hk => trivial), bl4 HB GE351 GE352 GE353 GE362⟩
  replace c58 := Bool.eq_false_iff.mpr c58
  subst c58
  rw [if_neg (show ¬ (false = true) by decide)] at H
  replace H := Option.bind_eq_some_iff.mp H
  obtain ⟨⟨t376, t377, t380⟩, A690, H⟩ := H
  have A69 := ak A690
  clear A690
  simp only [Option.some.injEq, Prod.mk.injEq] at H
  obtain ⟨rfl, rfl, rfl, rfl⟩ := H
  have hnb70 := NB362_351.out
  have hnc70 := NB351_362.out
  have hnb71 := NB362_352.out
  have hnc71 := NB352_362.out
  have hnb72 := NB362_353.out
  have hnc72 := NB353_362.out
  have hcz73_0 := bc wc BK362 0 (.int .i64 t355) rfl
  have hcz73_1 := bc wc BK362 1 (.slice Ao22 t356.length co22) rfl
  have hcz73_2 := bc wc BK362 2 (u363002) rfl
  have hfz73_0 := fz BK362 0
  have hfz73_1 := fz BK362 1
  have hfz73_2 := fz BK362 2
  obtain ⟨Ao74, co74, eo74⟩ := Kd.R_slice HO_363002.out
  subst eo74
  go_wp2_with (first | ((with_reducible refine gate_callee (f := 10) rfl ?_); refine goesL_ (some 37) rfl rfl Try.func10 (by kernel_rfl) rfl #[.agg #[.int .i64 t355, .slice Ao22 t356.length co22, .slice Ao74 x363002_6.length co74]] rfl (by (try simp only [List.map_toArray, List.map_cons, List.map_nil]); rfl) ?_; (with_reducible refine (impl_LiveOk.calls kj6 t355 _ _ t356 _ _ x363002_6 false _ ?side1 ?side2 ?side3 ?side4 A57.out).mono ?_); (case side1 => repeat (exact (Kd.R_reads' HO_363001.out).2.2)); (case side2 => exact (Kd.R_reads' HO_363001.out).2.1); (case side3 => repeat (exact (Kd.R_reads' HO_363002.out).2.2)); (case side4 => exact (Kd.R_reads' HO_363002.out).2.1); rintro e w75 ⟨rfl, hb⟩; refine ⟨_, rfl, ?_⟩; replace HO_363001 := ak (Kd.R_below (rk HO_363001) hb); replace HO_363002 := ak (Kd.R_below (rk HO_363002) hb); replace BK351 := ak (blk_below (bk BK351) hb); replace BK352 := ak (blk_below (bk BK352) hb); replace BK353 := ak (blk_below (bk BK353) hb); replace BK362 := ak (blk_below (bk BK362) hb); replace HB := ak (below_step (bl4 HB GE351 GE352 GE353 GE362) hb); (try clear hb); (try clear hb2); (try clear hk); (try clear hi); have hnb76 := NB351_352.out; have hnc76 := NB352_351.out; have hnb77 := NB351_353.out; have hnc77 := NB353_351.out; have hcz78_0 := bc w75 BK351 0 (.int .i64 a0_0) rfl; have hcz78_1 := bc w75 BK351 1 (.slice A0_1 l0_1.length c0_1) rfl; have hcz78_2 := bc w75 BK351 2 (.slice A0_2 l0_2.length c0_2) rfl; have hfz78_0 := fz BK351 0; have hfz78_1 := fz BK351 1; have hfz78_2 := fz BK351 2) | ((with_reducible refine gate_callee (f := 17) rfl ?_); refine goesL_ (some 40) rfl rfl Try.func17 (by kernel_rfl) rfl #[.agg #[.int .i64 a0_0, .slice A0_1 l0_1.length c0_1, .slice A0_2 l0_2.length c0_2]] rfl (by (try simp only [List.map_toArray, List.map_cons, List.map_nil]); rfl) ?_; (with_reducible refine (impl_Live_copied.calls a0_0 _ _ l0_1 _ _ l0_2 t376 t377 t380 _ ?side1 ?side2 ?side3 ?side4 A69.out).mono ?_); (case side1 => repeat (exact (Kd.C_below HR0_1.out HB.out))); (case side2 => exact HC0_1.out); (case side3 => repeat (exact (Kd.C_below HR0_2.out HB.out))); (case side4 => exact HC0_2.out); rintro e w79 ⟨v378, v381, rfl, ho0, ho1, hb⟩; refine ⟨_, rfl, ?_⟩; have HO379 := ak (Kd.R_lower (Kd.R_new' ho0 (Kd.R_lt (rk HO_363001))) (below_size (bl4 HB GE351 GE352 GE353 GE362))); replace HO_363001 := ak (Kd.R_elder' (rk HO_363001) (Kd.R_base ho0) hb); have HO382 := ak (Kd.R_lower (Kd.R_newB (Kd.R_new' ho1 (Kd.R_lt (rk HO_363002))) (bk BK352)) (below_size (bl4 HB GE351 GE352 GE353 GE362))); replace HO_363002 := ak (Kd.R_elder' (rk HO_363002) (Kd.R_base ho1) hb); replace BK351 := ak (blk_below (bk BK351) hb); replace BK352 := ak (blk_below (bk BK352) hb); replace BK353 := ak (blk_below (bk BK353) hb); replace BK362 := ak (blk_below (bk BK362) hb); replace HB := ak (below_step (bl4 HB GE351 GE352 GE353 GE362) hb); (try clear hb); (try clear hb2); (try clear hk); (try clear hi); (try clear ho0); (try clear ho1); have hnb80 := NB353_352.out; have hnc80 := NB352_353.out; have hcz81_0 := bc w79 BK353 0 (.int .i64 0) rfl; have hcz81_1 := bc w79 BK353 1 (.slice none 0 0) rfl; have hcz81_2 := bc w79 BK353 2 (.slice none 0 0) rfl; have hfz81_0 := fz BK353 0; have hfz81_1 := fz BK353 1; have hfz81_2 := fz BK353 2; obtain ⟨Ao82, co82, eo82⟩ := Kd.R_slice HO379.out; subst eo82; obtain ⟨Ao83, co83, eo83⟩ := Kd.R_slice HO382.out; subst eo83))
  refine bodyPost_ret (results_ct rfl _ _ gb353 28 #[.int .i64 t376, .slice Ao82 t377.length co82, .slice Ao83 t380.length co83] (0, 0) _ rfl (by refine blk_put (cs := #[.int .i64 t376, .slice Ao82 t377.length co82, .slice none 0 0]) ?_ 2 _ rfl; refine blk_put (cs := #[.int .i64 t376, .slice none 0 0, .slice none 0 0]) ?_ 1 _ rfl; refine blk_put (cs := #[.int .i64 0, .slice none 0 0, .slice none 0 0]) ?_ 0 _ rfl; exact BK353.out) Try.underlying28 rfl (by kernel_rfl)) rfl ?_
  exact ⟨_, _, by rfl, by exact Kd.R_mono (Kd.R_far (p := ⟨gb353, 2, none⟩) (Kd.R_far (p := ⟨gb353, 1, none⟩) (Kd.R_far (p := ⟨gb353, 0, none⟩) (Kd.R_types HO379.out BK353.out (by decide)) (fun _ hk => hk.2) (.int .i64 t376)) (fun _ hk => hk.2) (.slice Ao82 t377.length co82)) (fun _ hk => hk.2) (.slice Ao83 t380.length co83)) (fun _ hk => trivial), by exact Kd.R_mono (Kd.R_far (p := ⟨gb353, 2, none⟩) (Kd.R_far (p := ⟨gb353, 1, none⟩) (Kd.R_far (p := ⟨gb353, 0, none⟩) (Kd.R_types HO382.out BK353.out (by decide)) (fun _ hk => hk.2) (.int .i64 t376)) (fun _ hk => hk.2) (.slice Ao82 t377.length co82)) (fun _ hk => hk.2) (.slice Ao83 t380.length co83)) (fun _ hk => trivial), bl4 HB GE351 GE352 GE353 GE362⟩

end Go.Proofs.Ytbcedkcjodokkaa.F
