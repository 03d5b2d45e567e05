-- Printed by wip/px/px.py of this claim's repository (the kit's printer, extended there). Lean checks it.
import Derived.Test.YtbappbbljncdeaaFKinds
import Derived.Test.YtbappbbljncdeaaFimplLiveOk
import Derived.Test.YtbappbbljncdeaaFimplNews101
import Derived.Test.YtbappbbljncdeaaFimplLivecopied
import Derived.Test.YtbappbbljncdeaaFimplLivefind
import Derived.Test.YtbappbbljncdeaaFimplNews107
namespace Go.Proofs.Ytbappbbljncdeaa.F
open Go.RowKit Go.Proofs.YtbappbbljncdeaaW.PrintWords Go.Proofs.YtbappbbljncdeaaW.PrintLast Go.Proofs.YtbappbbljncdeaaW.PrintMore
attribute [local go_sem] max2_int min2_int max_two min_two max_three min_three max_four min_four   -- for this text's walks alone
set_option linter.unusedVariables false
set_option linter.unusedSimpArgs false

/-! ### impl_LiveTell: function 49 -/
def impl_LiveTell.j0 : Nat → Int → List (S100) → List (S70) → Int → List (S100) → List (S70) → Option (Int × (List (S100)) × (List (S70)) × Bool)
 | 0, _, _, _, _, _, _ => none
 | k + 1, x1156000, x1156001, x1156002, x1167000, x1167001, x1167002 => (impl_LiveOk.f k x1167000 x1167001 x1167002).bind fun t1179 => (if t1179 = true then (some (x1167000, x1167001, x1167002, true)) else ((impl_Live_copied.f x1156000 x1156001 x1156002).bind fun bt1180 => (some (bt1180.1, bt1180.2.1, bt1180.2.2, false))))
def impl_LiveTell.f (k : Nat) (a0_0 : Int) (l0_1 : List (S100)) (l0_2 : List (S70)) (a1_0 : Int) (a1_1 : Int) (a1_2 : Int) : Option (Int × (List (S100)) × (List (S70)) × Bool) := (impl_LiveOk.f k a0_0 l0_1 l0_2).bind fun t1158 => (if t1158 = true then ((impl_Live_copied.f a0_0 l0_1 l0_2).bind fun bt1159 => ((impl_Live_find.f bt1159.1 bt1159.2.1 bt1159.2.2 a1_0).bind fun bt1167 => (if bt1167.2 = true then (if 0 ≤ bt1167.1 then (if bt1167.1 < (bt1159.2.2.length : Int) then (impl_LiveTell.j0 k a0_0 l0_1 l0_2 bt1159.1 bt1159.2.1 (bt1159.2.2.set (bt1167.1 : Int).toNat (⟨a1_0, a1_1, a1_2⟩ : S70))) else (none)) else (none)) else ((impl_News_107.f bt1159.2.2 bt1167.1 (([(⟨a1_0, a1_1, a1_2⟩ : S70)] : List (S70)))).bind fun t1173 => ((impl_News_101.f t1173).bind fun t1176 => (impl_LiveTell.j0 k a0_0 l0_1 l0_2 bt1159.1 bt1159.2.1 t1176)))))) else (some (0, ([] : List (S100)), ([] : List (S70)), false)))
theorem impl_LiveTell.mono_l : ∀ k, (∀ y0 y1 y2 y3 y4 y5, LeO (impl_LiveTell.j0 k y0 y1 y2 y3 y4 y5) (impl_LiveTell.j0 (k + 1) y0 y1 y2 y3 y4 y5))
 | 0 => fun _ _ _ _ _ _ r h => by simp [impl_LiveTell.j0] at h
 | k + 1 => by
  have ih0 := impl_LiveTell.mono_l k
  ·intro y0 y1 y2 y3 y4 y5
   unfold impl_LiveTell.j0
   repeat' first | (with_reducible exact impl_LiveOk.mono _ _ _ _) | (with_reducible exact LeO.refl _) | (with_reducible refine LeO.bind ?_ (fun _ => ?_))
theorem impl_LiveTell.mono : ∀ a0 a1 a2 a3 a4 a5 k, LeO (impl_LiveTell.f k a0 a1 a2 a3 a4 a5) (impl_LiveTell.f (k + 1) a0 a1 a2 a3 a4 a5) := by
 intro a0 a1 a2 a3 a4 a5 k
 have ih0 := impl_LiveTell.mono_l k
 unfold impl_LiveTell.f
 repeat' first | (with_reducible exact ih0 _ _ _ _ _ _) | (with_reducible exact impl_LiveOk.mono _ _ _ _) | (with_reducible exact LeO.refl _) | (with_reducible refine LeO.ite ?_ ?_) | (with_reducible refine LeO.bind ?_ (fun _ => ?_))
set_option maxHeartbeats 8000000 in
set_option maxRecDepth 100000 in
theorem impl_LiveTell.calls (k : Nat) (a0_0 : Int) (A0_1 : Option Addr) (c0_1 : Nat) (l0_1 : List (S100)) (A0_2 : Option Addr) (c0_2 : Nat) (l0_2 : List (S70)) (a1_0 : Int) (a1_1 : Int) (a1_2 : Int) (r1 : Int) (r2 : List (S100)) (r3 : List (S70)) (r4 : Bool) (w : World) (hr0_1 : Kd.C k100 w A0_1 l0_1.length l0_1) (hc0_1 : l0_1.length ≤ c0_1) (hr0_2 : Kd.C k70 w A0_2 l0_2.length l0_2) (hc0_2 : l0_2.length ≤ c0_2) (h : impl_LiveTell.f k a0_0 l0_1 l0_2 a1_0 a1_1 a1_2 = some (r1, r2, r3, r4)) :
  Calls Try.prog 49 #[.agg #[.int .i64 a0_0, .slice A0_1 l0_1.length c0_1, .slice A0_2 l0_2.length c0_2], .agg #[.int .i64 a1_0, .int .i64 a1_1, .int .i64 a1_2]] w fun e w' => ∃ v1_ v2_ : Value, e = .returned (.tuple #[.agg #[.int .i64 r1, v1_, v2_], .bool r4]) ∧ Kd.R k100 100 w' w.heap.size (fun _ => True) v1_ r2 ∧ Kd.R k70 70 w' w.heap.size (fun _ => True) v2_ r3 ∧ Below w.heap.size w w' := by
 have hu49 := Try.underlying49
 have hu70 := Try.underlying70
 have HR0_1 := ak hr0_1
 have HC0_1 := ak hc0_1
 clear hr0_1 hc0_1
 have HR0_2 := ak hr0_2
 have HC0_2 := ak hc0_2
 clear hr0_2 hc0_2
 have HB := ak (Below.refl w.heap.size w)
 have H : ((impl_LiveOk.f k a0_0 l0_1 l0_2).bind fun t1158 => (if t1158 = true then ((impl_Live_copied.f a0_0 l0_1 l0_2).bind fun bt1159 => ((impl_Live_find.f bt1159.1 bt1159.2.1 bt1159.2.2 a1_0).bind fun bt1167 => (if bt1167.2 = true then (if 0 ≤ bt1167.1 then (if bt1167.1 < (bt1159.2.2.length : Int) then (impl_LiveTell.j0 k a0_0 l0_1 l0_2 bt1159.1 bt1159.2.1 (bt1159.2.2.set (bt1167.1 : Int).toNat (⟨a1_0, a1_1, a1_2⟩ : S70))) else (none)) else (none)) else ((impl_News_107.f bt1159.2.2 bt1167.1 (([(⟨a1_0, a1_1, a1_2⟩ : S70)] : List (S70)))).bind fun t1173 => ((impl_News_101.f t1173).bind fun t1176 => (impl_LiveTell.j0 k a0_0 l0_1 l0_2 bt1159.1 bt1159.2.1 t1176)))))) else (some (0, ([] : List (S100)), ([] : List (S70)), false)))) = some (r1, r2, r3, r4) := h
 clear h
 replace H := Option.bind_eq_some_iff.mp H
 obtain ⟨t1158, A30, H⟩ := H
 have A3 := ak A30
 clear A30
 by_cases c4 : t1158 = true
 rotate_left
 ·replace c4 := Bool.eq_false_iff.mpr c4
  subst c4
  rw [if_neg (show ¬ (false = true) by decide)] at H
  simp only [Option.some.injEq, Prod.mk.injEq] at H
  obtain ⟨rfl, rfl, rfl, rfl⟩ := H
  go_enter Try.func49, Try.ntmps49
  go_wp2_with (first | ((with_reducible refine gate_dst (N := 2) rfl ?_); refine box_event ?hg (N := 2) ?hd (cs := #[.int .i64 a0_0, .slice A0_1 l0_1.length c0_1, .slice A0_2 l0_2.length c0_2]) (t := 49) ?hr ?_; (case hd => rfl); (case hg => rfl); (case hr => (go_simp; done)); intro gb1155 hg w84 hbox hb; have BK1155 := ak (hbox); have GW1155 := ak ((by rw [hg]; exact (below_size (bl HB)) : w.heap.size ≤ gb1155)); have GE1155 := ak ((by rw [hg]; exact (below_size (bl HB)) : w.heap.size ≤ gb1155)); replace HB := ak (below_step (bl HB) hb); clear hb hbox hg) | ((with_reducible refine gate_dst (N := 3) rfl ?_); refine box_event ?hg (N := 3) ?hd (cs := #[.int .i64 a1_0, .int .i64 a1_1, .int .i64 a1_2]) (t := 70) ?hr ?_; (case hd => rfl); (case hg => rfl); (case hr => (go_simp; done)); intro gb1156 hg w85 hbox hb; have BK1156 := ak (hbox); have GW1156 := ak ((by rw [hg]; exact (below_size (bl1 HB GE1155)) : w.heap.size ≤ gb1156)); have GE1156 := ak ((by rw [hg]; exact (below_size (bl1 HB GE1155)) : w.heap.size ≤ gb1156)); replace HB := ak (below_step (bl1 HB GE1155) hb); have NB1155_1156 := ak ((by rw [hg]; exact Nat.ne_of_lt (blk_lt (bk BK1155)) : gb1155 ≠ gb1156)); have NB1156_1155 := ak ((by rw [hg]; exact Nat.ne_of_gt (blk_lt (bk BK1155)) : gb1156 ≠ gb1155)); replace BK1155 := ak (blk_below (bk BK1155) hb); clear hb hbox hg) | ((with_reducible refine gate_dst (N := 4) rfl ?_); refine box_event ?hg (N := 4) ?hd (cs := #[.int .i64 0, .slice none 0 0, .slice none 0 0]) (t := 49) ?hr ?_; (case hd => rfl); (case hg => rfl); (case hr => (go_simp; done)); intro gb1157 hg w86 hbox hb; have BK1157 := ak (hbox); have GW1157 := ak ((by rw [hg]; exact (below_size (bl2 HB GE1155 GE1156)) : w.heap.size ≤ gb1157)); have GE1157 := ak ((by rw [hg]; exact (below_size (bl2 HB GE1155 GE1156)) : w.heap.size ≤ gb1157)); replace HB := ak (below_step (bl2 HB GE1155 GE1156) hb); have NB1155_1157 := ak ((by rw [hg]; exact Nat.ne_of_lt (blk_lt (bk BK1155)) : gb1155 ≠ gb1157)); have NB1157_1155 := ak ((by rw [hg]; exact Nat.ne_of_gt (blk_lt (bk BK1155)) : gb1157 ≠ gb1155)); replace BK1155 := ak (blk_below (bk BK1155) hb); have NB1156_1157 := ak ((by rw [hg]; exact Nat.ne_of_lt (blk_lt (bk BK1156)) : gb1156 ≠ gb1157)); have NB1157_1156 := ak ((by rw [hg]; exact Nat.ne_of_gt (blk_lt (bk BK1156)) : gb1157 ≠ gb1156)); replace BK1156 := ak (blk_below (bk BK1156) hb); clear hb hbox hg; have hnb87 := NB1155_1156.out; have hnc87 := NB1156_1155.out; have hnb88 := NB1155_1157.out; have hnc88 := NB1157_1155.out; have hcz89_0 := bc w86 BK1155 0 (.int .i64 a0_0) rfl; have hcz89_1 := bc w86 BK1155 1 (.slice A0_1 l0_1.length c0_1) rfl; have hcz89_2 := bc w86 BK1155 2 (.slice A0_2 l0_2.length c0_2) rfl; have hfz89_0 := fz BK1155 0; have hfz89_1 := fz BK1155 1; have hfz89_2 := fz BK1155 2) | ((with_reducible refine gate_callee (f := 78) rfl ?_); refine goesL_ (some 10) rfl rfl Try.func78 (by kernel_rfl) rfl #[.agg #[.int .i64 a0_0, .slice A0_1 l0_1.length c0_1, .slice A0_2 l0_2.length c0_2]] rfl (by (try simp only [List.map_toArray, List.map_cons, List.map_nil]); rfl) ?_; (with_reducible refine (impl_LiveOk.calls k a0_0 _ _ l0_1 _ _ l0_2 false _ ?side1 ?side2 ?side3 ?side4 A3.out).mono ?_); (case side1 => repeat (exact (Kd.C_below HR0_1.out HB.out))); (case side2 => exact HC0_1.out); (case side3 => repeat (exact (Kd.C_below HR0_2.out HB.out))); (case side4 => exact HC0_2.out); rintro e w90 ⟨rfl, hb⟩; refine ⟨_, rfl, ?_⟩; replace BK1155 := ak (blk_below (bk BK1155) hb); replace BK1156 := ak (blk_below (bk BK1156) hb); replace BK1157 := ak (blk_below (bk BK1157) hb); replace HB := ak (below_step (bl3 HB GE1155 GE1156 GE1157) hb); (try clear hb); (try clear hb2); (try clear hk); (try clear hi); have hnb91 := NB1157_1156.out; have hnc91 := NB1156_1157.out; have hcz92_0 := bc w90 BK1157 0 (.int .i64 0) rfl; have hcz92_1 := bc w90 BK1157 1 (.slice none 0 0) rfl; have hcz92_2 := bc w90 BK1157 2 (.slice none 0 0) rfl; have hfz92_0 := fz BK1157 0; have hfz92_1 := fz BK1157 1; have hfz92_2 := fz BK1157 2))
  refine bodyPost_ret (results_ct rfl _ _ gb1157 49 #[.int .i64 0, .slice none 0 0, .slice none 0 0] (0, 0) _ rfl (by refine blk_put (cs := #[.int .i64 0, .slice none 0 0, .slice none 0 0]) ?_ 2 _ rfl; refine blk_put (cs := #[.int .i64 0, .slice none 0 0, .slice none 0 0]) ?_ 1 _ rfl; refine blk_put (cs := #[.int .i64 0, .slice none 0 0, .slice none 0 0]) ?_ 0 _ rfl; exact BK1157.out) Try.underlying49 rfl (by kernel_rfl)) rfl ?_
  exact ⟨_, _, by rfl, by exact Kd.R_nil _ _ _ _ _, by exact Kd.R_nil _ _ _ _ _, bl3 HB GE1155 GE1156 GE1157⟩
 subst c4
 rw [if_pos rfl] at H
 replace H := Option.bind_eq_some_iff.mp H
 obtain ⟨⟨t1159, t1160, t1163⟩, A50, H⟩ := H
 have A5 := ak A50
 clear A50
 replace H := Option.bind_eq_some_iff.mp H
 obtain ⟨⟨t1167, t1168⟩, A60, H⟩ := H
 have A6 := ak A60
 clear A60
 have HC7 := ak H
 clear H
 go_enter Try.func49, Try.ntmps49
 go_upto_if 22 with (first | ((with_reducible refine gate_dst (N := 2) rfl ?_); refine box_event ?hg (N := 2) ?hd (cs := #[.int .i64 a0_0, .slice A0_1 l0_1.length c0_1, .slice A0_2 l0_2.length c0_2]) (t := 49) ?hr ?_; (case hd => rfl); (case hg => rfl); (case hr => (go_simp; done)); intro gb1155 hg w8 hbox hb; have BK1155 := ak (hbox); have GW1155 := ak ((by rw [hg]; exact (below_size (bl HB)) : w.heap.size ≤ gb1155)); have GE1155 := ak ((by rw [hg]; exact (below_size (bl HB)) : w.heap.size ≤ gb1155)); replace HB := ak (below_step (bl HB) hb); clear hb hbox hg) | ((with_reducible refine gate_dst (N := 3) rfl ?_); refine box_event ?hg (N := 3) ?hd (cs := #[.int .i64 a1_0, .int .i64 a1_1, .int .i64 a1_2]) (t := 70) ?hr ?_; (case hd => rfl); (case hg => rfl); (case hr => (go_simp; done)); intro gb1156 hg w9 hbox hb; have BK1156 := ak (hbox); have GW1156 := ak ((by rw [hg]; exact (below_size (bl1 HB GE1155)) : w.heap.size ≤ gb1156)); have GE1156 := ak ((by rw [hg]; exact (below_size (bl1 HB GE1155)) : w.heap.size ≤ gb1156)); replace HB := ak (below_step (bl1 HB GE1155) hb); have NB1155_1156 := ak ((by rw [hg]; exact Nat.ne_of_lt (blk_lt (bk BK1155)) : gb1155 ≠ gb1156)); have NB1156_1155 := ak ((by rw [hg]; exact Nat.ne_of_gt (blk_lt (bk BK1155)) : gb1156 ≠ gb1155)); replace BK1155 := ak (blk_below (bk BK1155) hb); clear hb hbox hg) | ((with_reducible refine gate_dst (N := 4) rfl ?_); refine box_event ?hg (N := 4) ?hd (cs := #[.int .i64 0, .slice none 0 0, .slice none 0 0]) (t := 49) ?hr ?_; (case hd => rfl); (case hg => rfl); (case hr => (go_simp; done)); intro gb1157 hg w10 hbox hb; have BK1157 := ak (hbox); have GW1157 := ak ((by rw [hg]; exact (below_size (bl2 HB GE1155 GE1156)) : w.heap.size ≤ gb1157)); have GE1157 := ak ((by rw [hg]; exact (below_size (bl2 HB GE1155 GE1156)) : w.heap.size ≤ gb1157)); replace HB := ak (below_step (bl2 HB GE1155 GE1156) hb); have NB1155_1157 := ak ((by rw [hg]; exact Nat.ne_of_lt (blk_lt (bk BK1155)) : gb1155 ≠ gb1157)); have NB1157_1155 := ak ((by rw [hg]; exact Nat.ne_of_gt (blk_lt (bk BK1155)) : gb1157 ≠ gb1155)); replace BK1155 := ak (blk_below (bk BK1155) hb); have NB1156_1157 := ak ((by rw [hg]; exact Nat.ne_of_lt (blk_lt (bk BK1156)) : gb1156 ≠ gb1157)); have NB1157_1156 := ak ((by rw [hg]; exact Nat.ne_of_gt (blk_lt (bk BK1156)) : gb1157 ≠ gb1156)); replace BK1156 := ak (blk_below (bk BK1156) hb); clear hb hbox hg; have hnb11 := NB1155_1156.out; have hnc11 := NB1156_1155.out; have hnb12 := NB1155_1157.out; have hnc12 := NB1157_1155.out; have hcz13_0 := bc w10 BK1155 0 (.int .i64 a0_0) rfl; have hcz13_1 := bc w10 BK1155 1 (.slice A0_1 l0_1.length c0_1) rfl; have hcz13_2 := bc w10 BK1155 2 (.slice A0_2 l0_2.length c0_2) rfl; have hfz13_0 := fz BK1155 0; have hfz13_1 := fz BK1155 1; have hfz13_2 := fz BK1155 2) | ((with_reducible refine gate_callee (f := 78) rfl ?_); refine goesL_ (some 10) rfl rfl Try.func78 (by kernel_rfl) rfl #[.agg #[.int .i64 a0_0, .slice A0_1 l0_1.length c0_1, .slice A0_2 l0_2.length c0_2]] rfl (by (try simp only [List.map_toArray, List.map_cons, List.map_nil]); rfl) ?_; (with_reducible refine (impl_LiveOk.calls k a0_0 _ _ l0_1 _ _ l0_2 true _ ?side1 ?side2 ?side3 ?side4 A3.out).mono ?_); (case side1 => repeat (exact (Kd.C_below HR0_1.out HB.out))); (case side2 => exact HC0_1.out); (case side3 => repeat (exact (Kd.C_below HR0_2.out HB.out))); (case side4 => exact HC0_2.out); rintro e w14 ⟨rfl, hb⟩; refine ⟨_, rfl, ?_⟩; replace BK1155 := ak (blk_below (bk BK1155) hb); replace BK1156 := ak (blk_below (bk BK1156) hb); replace BK1157 := ak (blk_below (bk BK1157) hb); replace HB := ak (below_step (bl3 HB GE1155 GE1156 GE1157) hb); (try clear hb); (try clear hb2); (try clear hk); (try clear hi); have hcz15_0 := bc w14 BK1155 0 (.int .i64 a0_0) rfl; have hcz15_1 := bc w14 BK1155 1 (.slice A0_1 l0_1.length c0_1) rfl; have hcz15_2 := bc w14 BK1155 2 (.slice A0_2 l0_2.length c0_2) rfl; have hfz15_0 := fz BK1155 0; have hfz15_1 := fz BK1155 1; have hfz15_2 := fz BK1155 2) | ((with_reducible refine gate_callee (f := 99) rfl ?_); refine goesL_ (some 14) rfl rfl Try.func99 (by kernel_rfl) rfl #[.agg #[.int .i64 a0_0, .slice A0_1 l0_1.length c0_1, .slice A0_2 l0_2.length c0_2]] rfl (by (try simp only [List.map_toArray, List.map_cons, List.map_nil]); rfl) ?_; (with_reducible refine (impl_Live_copied.calls a0_0 _ _ l0_1 _ _ l0_2 t1159 t1160 t1163 _ ?side1 ?side2 ?side3 ?side4 A5.out).mono ?_); (case side1 => repeat (exact (Kd.C_below HR0_1.out HB.out))); (case side2 => exact HC0_1.out); (case side3 => repeat (exact (Kd.C_below HR0_2.out HB.out))); (case side4 => exact HC0_2.out); rintro e w16 ⟨v1161, v1164, rfl, ho0, ho1, hb⟩; refine ⟨_, rfl, ?_⟩; have HO1162 := ak (Kd.R_lower ho0 (below_size (bl3 HB GE1155 GE1156 GE1157))); have HO1165 := ak (Kd.R_lower (Kd.R_newB ho1 (bk BK1156)) (below_size (bl3 HB GE1155 GE1156 GE1157))); replace BK1155 := ak (blk_below (bk BK1155) hb); replace BK1156 := ak (blk_below (bk BK1156) hb); replace BK1157 := ak (blk_below (bk BK1157) hb); replace HB := ak (below_step (bl3 HB GE1155 GE1156 GE1157) hb); (try clear hb); (try clear hb2); (try clear hk); (try clear hi); (try clear ho0); (try clear ho1)) | ((with_reducible refine gate_dst (N := 6) rfl ?_); refine box_event ?hg (N := 6) ?hd (cs := #[.int .i64 0, .slice none 0 0, .slice none 0 0]) (t := 49) ?hr ?_; (case hd => rfl); (case hg => rfl); (case hr => (go_simp; done)); intro gb1166 hg w17 hbox hb; replace HO1162 := ak (Kd.R_below (rk HO1162) hb); replace HO1165 := ak (Kd.R_below (rk HO1165) hb); have BK1166 := ak (hbox); have GW1166 := ak ((by rw [hg]; exact (below_size (bl3 HB GE1155 GE1156 GE1157)) : w.heap.size ≤ gb1166)); have GE1166 := ak ((by rw [hg]; exact (below_size (bl3 HB GE1155 GE1156 GE1157)) : w.heap.size ≤ gb1166)); replace HB := ak (below_step (bl3 HB GE1155 GE1156 GE1157) hb); have NB1155_1166 := ak ((by rw [hg]; exact Nat.ne_of_lt (blk_lt (bk BK1155)) : gb1155 ≠ gb1166)); have NB1166_1155 := ak ((by rw [hg]; exact Nat.ne_of_gt (blk_lt (bk BK1155)) : gb1166 ≠ gb1155)); replace BK1155 := ak (blk_below (bk BK1155) hb); have NB1156_1166 := ak ((by rw [hg]; exact Nat.ne_of_lt (blk_lt (bk BK1156)) : gb1156 ≠ gb1166)); have NB1166_1156 := ak ((by rw [hg]; exact Nat.ne_of_gt (blk_lt (bk BK1156)) : gb1166 ≠ gb1156)); replace BK1156 := ak (blk_below (bk BK1156) hb); have NB1157_1166 := ak ((by rw [hg]; exact Nat.ne_of_lt (blk_lt (bk BK1157)) : gb1157 ≠ gb1166)); have NB1166_1157 := ak ((by rw [hg]; exact Nat.ne_of_gt (blk_lt (bk BK1157)) : gb1166 ≠ gb1157)); replace BK1157 := ak (blk_below (bk BK1157) hb); clear hb hbox hg; have hnb18 := NB1166_1155.out; have hnc18 := NB1155_1166.out; have hnb19 := NB1166_1156.out; have hnc19 := NB1156_1166.out; have hnb20 := NB1166_1157.out; have hnc20 := NB1157_1166.out; have hcz21_0 := bc w17 BK1166 0 (.int .i64 0) rfl; have hcz21_1 := bc w17 BK1166 1 (.slice none 0 0) rfl; have hcz21_2 := bc w17 BK1166 2 (.slice none 0 0) rfl; have hfz21_0 := fz BK1166 0; have hfz21_1 := fz BK1166 1; have hfz21_2 := fz BK1166 2; obtain ⟨Ao22, co22, eo22⟩ := Kd.R_slice HO1162.out; subst eo22; obtain ⟨Ao23, co23, eo23⟩ := Kd.R_slice HO1165.out; subst eo23; have hnb24 := NB1156_1157.out; have hnc24 := NB1157_1156.out; have hcz25_0 := bc w17 BK1156 0 (.int .i64 a1_0) rfl; have hcz25_1 := bc w17 BK1156 1 (.int .i64 a1_1) rfl; have hcz25_2 := bc w17 BK1156 2 (.int .i64 a1_2) rfl; have hfz25_0 := fz BK1156 0; have hfz25_1 := fz BK1156 1; have hfz25_2 := fz BK1156 2) | ((with_reducible refine gate_callee (f := 100) rfl ?_); refine goesL_ (some 19) rfl rfl Try.func100 (by kernel_rfl) rfl #[.agg #[.int .i64 t1159, .slice Ao22 t1160.length co22, .slice Ao23 t1163.length co23], .int .i64 a1_0] rfl (by (try simp only [List.map_toArray, List.map_cons, List.map_nil]); rfl) ?_; (with_reducible refine (impl_Live_find.calls t1159 _ _ t1160 _ _ t1163 a1_0 t1167 t1168 _ ?side1 ?side2 ?side3 ?side4 A6.out).mono ?_); (case side1 => refine (Kd.R_reads' (e := 100) (base := w.heap.size) (ok := fun k_ => True) (n := t1160.length) (c := co22) ?_).2.2; exact (by exact (Kd.R_mono (Kd.R_far (p := ⟨gb1166, 2, none⟩) (Kd.R_far (p := ⟨gb1166, 1, none⟩) (Kd.R_far (p := ⟨gb1166, 0, none⟩) (Kd.R_types HO1162.out BK1166.out (by decide)) (fun _ hk => hk.2) (.int .i64 t1159)) (fun _ hk => hk.2) (.slice Ao22 t1160.length co22)) (fun _ hk => hk.2) (.slice Ao23 t1163.length co23)) (fun _ h_ => h_.1)))); (case side2 => exact (Kd.R_reads' HO1162.out).2.1); (case side3 => refine (Kd.R_reads' (e := 70) (base := w.heap.size) (ok := fun k_ => (True ∧ k_ ≠ gb1156)) (n := t1163.length) (c := co23) ?_).2.2; exact (by exact (Kd.R_mono (Kd.R_far (p := ⟨gb1166, 2, none⟩) (Kd.R_far (p := ⟨gb1166, 1, none⟩) (Kd.R_far (p := ⟨gb1166, 0, none⟩) (Kd.R_types HO1165.out BK1166.out (by decide)) (fun _ hk => hk.2) (.int .i64 t1159)) (fun _ hk => hk.2) (.slice Ao22 t1160.length co22)) (fun _ hk => hk.2) (.slice Ao23 t1163.length co23)) (fun _ h_ => h_.1)))); (case side4 => exact (Kd.R_reads' HO1165.out).2.1); rintro e w26 ⟨rfl, hb⟩; refine ⟨_, rfl, ?_⟩; replace HO1162 := ak (Kd.R_below (by exact (Kd.R_mono (Kd.R_far (p := ⟨gb1166, 2, none⟩) (Kd.R_far (p := ⟨gb1166, 1, none⟩) (Kd.R_far (p := ⟨gb1166, 0, none⟩) (Kd.R_types HO1162.out BK1166.out (by decide)) (fun _ hk => hk.2) (.int .i64 t1159)) (fun _ hk => hk.2) (.slice Ao22 t1160.length co22)) (fun _ hk => hk.2) (.slice Ao23 t1163.length co23)) (fun _ h_ => h_.1))) hb); replace HO1165 := ak (Kd.R_below (by exact (Kd.R_mono (Kd.R_far (p := ⟨gb1166, 2, none⟩) (Kd.R_far (p := ⟨gb1166, 1, none⟩) (Kd.R_far (p := ⟨gb1166, 0, none⟩) (Kd.R_types HO1165.out BK1166.out (by decide)) (fun _ hk => hk.2) (.int .i64 t1159)) (fun _ hk => hk.2) (.slice Ao22 t1160.length co22)) (fun _ hk => hk.2) (.slice Ao23 t1163.length co23)) (fun _ h_ => h_.1))) hb); replace BK1155 := ak (blk_below (g := gb1155) (o := .cells #[.int .i64 a0_0, .slice A0_1 l0_1.length c0_1, .slice A0_2 l0_2.length c0_2] 49 (0, 0)) (by refine blk_far ?_ NB1155_1166.out _; refine blk_far ?_ NB1155_1166.out _; refine blk_far ?_ NB1155_1166.out _; exact BK1155.out) hb); replace BK1156 := ak (blk_below (g := gb1156) (o := .cells #[.int .i64 a1_0, .int .i64 a1_1, .int .i64 a1_2] 70 (0, 0)) (by refine blk_far ?_ NB1156_1166.out _; refine blk_far ?_ NB1156_1166.out _; refine blk_far ?_ NB1156_1166.out _; exact BK1156.out) hb); replace BK1157 := ak (blk_below (g := gb1157) (o := .cells #[.int .i64 0, .slice none 0 0, .slice none 0 0] 49 (0, 0)) (by refine blk_far ?_ NB1157_1166.out _; refine blk_far ?_ NB1157_1166.out _; refine blk_far ?_ NB1157_1166.out _; exact BK1157.out) hb); replace BK1166 := ak (blk_below (g := gb1166) (o := .cells #[.int .i64 t1159, .slice Ao22 t1160.length co22, .slice Ao23 t1163.length co23] 49 (0, 0)) (by refine blk_put (cs := #[.int .i64 t1159, .slice Ao22 t1160.length co22, .slice none 0 0]) ?_ 2 _ rfl; refine blk_put (cs := #[.int .i64 t1159, .slice none 0 0, .slice none 0 0]) ?_ 1 _ rfl; refine blk_put (cs := #[.int .i64 0, .slice none 0 0, .slice none 0 0]) ?_ 0 _ rfl; exact BK1166.out) hb); replace HB := ak (below_step (bl4 HB GE1155 GE1156 GE1157 GE1166) hb); (try clear hb); (try clear hb2); (try clear hk); (try clear hi)))
 (try simp only [Act.put, List.setIfInBounds_toArray, List.set_cons_zero, List.set_cons_succ])
 go_cut [] (fun wc => ∃ (kq : Nat) (x1157000_6 : Int) (x1157001_6 : Int) (x1157002_6 : Int) (x1167002_6 : List (S70)) (u1167002 : Value), Aside0 (impl_LiveTell.j0 kq a0_0 l0_1 l0_2 t1159 t1160 x1167002_6 = some (r1, r2, r3, r4)) ∧ Aside0 (kq ≤ k) ∧ Aside0 (Kd.R k100 100 wc w.heap.size (fun _ => True) (.slice Ao22 t1160.length co22) t1160) ∧ Aside0 (Kd.R k70 70 wc w.heap.size (fun k_ => k_ ≠ gb1156) u1167002 x1167002_6) ∧ Aside0 (wc.heap[gb1155]? = some (.cells #[.int .i64 a0_0, (.slice A0_1 l0_1.length c0_1), (.slice A0_2 l0_2.length c0_2)] 49 (0, 0))) ∧ Aside0 (wc.heap[gb1156]? = some (.cells #[.int .i64 x1157000_6, .int .i64 x1157001_6, .int .i64 x1157002_6] 70 (0, 0))) ∧ Aside0 (wc.heap[gb1157]? = some (.cells #[.int .i64 0, (.slice none 0 0), (.slice none 0 0)] 49 (0, 0))) ∧ Aside0 (wc.heap[gb1166]? = some (.cells #[.int .i64 t1159, (.slice Ao22 t1160.length co22), u1167002] 49 (0, 0))) ∧ Aside0 (Below w.heap.size w wc))
 case first =>
  have H := HC7.out
  clear HC7
  by_cases c27 : t1168 = true
  ·subst c27
   rw [if_pos rfl] at H
   by_cases c28 : 0 ≤ t1167
   rotate_left
   ·rw [if_neg c28] at H
    exact absurd H (by simp)
   rw [if_pos c28] at H
   have c28b0 : decide (0 ≤ t1167) = true := decide_eq_true c28
   clear c28
   (skip)
   by_cases c29 : t1167 < (t1163.length : Int)
   rotate_left
   ·rw [if_neg c29] at H
    exact absurd H (by simp)
   rw [if_pos c29] at H
   have c29b0 : decide (t1167 < (t1163.length : Int)) = true := decide_eq_true c29
   clear c29
   obtain ⟨y1169, hy1169⟩ : ∃ y_ : List (S70), y_ = (t1163.set (t1167 : Int).toNat (⟨a1_0, a1_1, a1_2⟩ : S70)) := ⟨_, rfl⟩
   replace H : (impl_LiveTell.j0 k a0_0 l0_1 l0_2 t1159 t1160 y1169) = some (r1, r2, r3, r4) := by (rw [hy1169]; with_reducible exact H)
   have Ny1169 := ak hy1169
   clear hy1169
   have H' := ak H
   clear H
   have hnb31 := NB1166_1155.out
   have hnc31 := NB1155_1166.out
   have hnb32 := NB1166_1156.out
   have hnc32 := NB1156_1166.out
   have hnb33 := NB1166_1157.out
   have hnc33 := NB1157_1166.out
   have hcz34_0 := bc w26 BK1166 0 (.int .i64 t1159) rfl
   have hcz34_1 := bc w26 BK1166 1 (.slice Ao22 t1160.length co22) rfl
   have hcz34_2 := bc w26 BK1166 2 (.slice Ao23 t1163.length co23) rfl
   have hfz34_0 := fz BK1166 0
   have hfz34_1 := fz BK1166 1
   have hfz34_2 := fz BK1166 2
   have hnb35 := NB1156_1155.out
   have hnc35 := NB1155_1156.out
   have hnb36 := NB1156_1157.out
   have hnc36 := NB1157_1156.out
   have hcz37_0 := bc w26 BK1156 0 (.int .i64 a1_0) rfl
   have hcz37_1 := bc w26 BK1156 1 (.int .i64 a1_1) rfl
   have hcz37_2 := bc w26 BK1156 2 (.int .i64 a1_2) rfl
   have hfz37_0 := fz BK1156 0
   have hfz37_1 := fz BK1156 1
   have hfz37_2 := fz BK1156 2
   have p30 : 0 ≤ (t1167 : Int) := oT (by (with_reducible assumption))
   have q30 : (t1167 : Int) < ((t1163.length : Int) : Int) := oT (by (with_reducible assumption))
   obtain ⟨go30, co30, eo30, gb30, gl30, cl30, HG30⟩ := Kd.R_form HO1165.out (by omega)
   (cases eo30)
   have GB30 := ak gb30
   have GG30 := ak HG30
   clear gb30 gl30 HG30
   obtain ⟨ce30, hcl30, hM30, hcc30, hfr30⟩ := Kd.R_elem HO1165.out z70 (t1167 : Int) p30 q30
   obtain rfl := k70_openM hM30
   have hx30_0 : w26.cell? ⟨go30, (t1167 : Int).toNat * 3, none⟩ = some (.int .i64 ((rd_T70 t1163 t1167).f0)) := hcc30 0 _ rfl
   have hx30_1 : w26.cell? ⟨go30, (t1167 : Int).toNat * 3 + 1, none⟩ = some (.int .i64 ((rd_T70 t1163 t1167).f1)) := hcc30 1 _ rfl
   have hx30_2 : w26.cell? ⟨go30, (t1167 : Int).toNat * 3 + 2, none⟩ = some (.int .i64 ((rd_T70 t1163 t1167).f2)) := hcc30 2 _ rfl
   have hf30_0 : w26.frozen? ⟨go30, (t1167 : Int).toNat * 3, none⟩ = false := hfr30 0
   have hf30_1 : w26.frozen? ⟨go30, (t1167 : Int).toNat * 3 + 1, none⟩ = false := hfr30 1
   have hf30_2 : w26.frozen? ⟨go30, (t1167 : Int).toNat * 3 + 2, none⟩ = false := hfr30 2
   clear hcl30 hcc30 hfr30 hM30
   replace p30 := eq_true p30
   replace q30 := eq_true q30
   have n_ := ak (Kd.R_mono (ok' := (fun k_ => k_ ≠ gb1156)) HO1165.out (fun k_ hk => hk.2))
   clear HO1165
   have HO1165 := n_
   clear n_
   have HX38 := ak (show Kd.R k70 70 w26 w.heap.size (fun k_ => k_ ≠ gb1156) (.slice (some ⟨go30, 0, none⟩) t1163.length co23) t1163 from (rk HO1165))
   obtain ⟨ce38, hcl38, hM38, hcc38, hfr38⟩ := Kd.R_elem HX38.out z70 (t1167 : Int) (oT (by (with_reducible assumption))) (by have h_ : (t1167 : Int) < ((t1163.length : Int) : Int) := oT (by (with_reducible assumption)); exact h_)
   obtain rfl := k70_openM hM38
   have HP38 := Kd.R_seg HX38.out (t1167 : Int) (oT (by (with_reducible assumption))) (by have h_ : (t1167 : Int) < ((t1163.length : Int) : Int) := oT (by (with_reducible assumption)); exact h_) (seg := [.int .i64 a1_0, .int .i64 a1_1, .int .i64 a1_2]) (j := 0) hcl38 hcc38 (show 3 ≤ 3 from by decide) (x' := (⟨a1_0, a1_1, a1_2⟩ : S70)) (k70_mkM _ _ _ (⟨a1_0, a1_1, a1_2⟩ : S70) ) (fun _ hk => hk)
   have hx38_0 := hcc38 0 _ rfl
   (try simp only [show (k70).sz = 3 from rfl, Nat.mul_one, Nat.add_zero] at hx38_0)
   have hf38_0 := hfr38 0
   (try simp only [show (k70).sz = 3 from rfl, Nat.mul_one, Nat.add_zero] at hf38_0)
   have hx38_1 := hcc38 1 _ rfl
   (try simp only [show (k70).sz = 3 from rfl, Nat.mul_one, Nat.add_zero] at hx38_1)
   have hf38_1 := hfr38 1
   (try simp only [show (k70).sz = 3 from rfl, Nat.mul_one, Nat.add_zero] at hf38_1)
   have hx38_2 := hcc38 2 _ rfl
   (try simp only [show (k70).sz = 3 from rfl, Nat.mul_one, Nat.add_zero] at hx38_2)
   have hf38_2 := hfr38 2
   (try simp only [show (k70).sz = 3 from rfl, Nat.mul_one, Nat.add_zero] at hf38_2)
   clear hcl38 hcc38 hfr38 hM38
   go_wp2_with (((with_reducible refine gate_store (t := 70) (p := 27) rfl ?_); refine store_event (t := 70) (p := 27) (v := ?vo_w39) (w1 := (((w26.setCell ⟨go30, (t1167 : Int).toNat * 3, none⟩ (.int .i64 a1_0)).setCell ⟨go30, (t1167 : Int).toNat * 3 + 1, none⟩ (.int .i64 a1_1)).setCell ⟨go30, (t1167 : Int).toNat * 3 + 2, none⟩ (.int .i64 a1_2))) ?hg ?ho ?hn ?hr ?_; (case ho => rfl); (case hg => rfl); (case hn => rfl); (case hr => (go_simp; done)); intro w39 hw; have hg : w26.grownBy w39 (some go30) := (by rw [hw]; exact HP38.2); have hp_ : Kd.R k70 70 w39 w.heap.size (fun k_ => k_ ≠ gb1156) (.slice (some ⟨go30, 0, none⟩) t1163.length co23) y1169 := (by rw [hw, Ny1169.out]; exact HP38.1); clear HP38; replace BK1155 := ak (blk_grown (bk BK1155) hg (Kd.R_ne HO1165.out BK1155.out (by decide))); replace BK1156 := ak (blk_grown (bk BK1156) hg (Kd.R_away HO1165.out (fun _ hk => hk))); replace BK1157 := ak (blk_grown (bk BK1157) hg (Kd.R_ne HO1165.out BK1157.out (by decide))); replace HO1162 := ak (Kd.R_over' (v := (.slice (some ⟨go30, 0, none⟩) t1163.length co23)) (rk HO1162) (Kd.R_typed HO1165.out) (by decide) hg); replace BK1166 := ak (blk_grown (bk BK1166) hg (Kd.R_ne HO1165.out BK1166.out (by decide))); replace HO1165 := ak (hp_); replace HB := ak ((by rw [hw]; exact below_set (below_set (below_set (HB.out) GB30.out) GB30.out) GB30.out : Below w.heap.size w w39)); clear hg hw hp_))
   go_meet
   case rel => exact ⟨_, (a1_0), (a1_1), (a1_2), (y1169), (.slice (some ⟨go30, 0, none⟩) t1163.length co23), H', ⟨by omega⟩, ⟨rk HO1162⟩, ⟨rk HO1165⟩, ⟨bk BK1155⟩, ⟨bk BK1156⟩, ⟨bk BK1157⟩, ⟨bk BK1166⟩, ⟨bl4 HB GE1155 GE1156 GE1157 GE1166⟩⟩
  replace c27 := Bool.eq_false_iff.mpr c27
  subst c27
  rw [if_neg (show ¬ (false = true) by decide)] at H
  obtain ⟨y1170, hy1170⟩ : ∃ y_ : List (S70), y_ = (([(⟨a1_0, a1_1, a1_2⟩ : S70)] : List (S70))) := ⟨_, rfl⟩
  replace H : ((impl_News_107.f t1163 t1167 y1170).bind fun t1173 => ((impl_News_101.f t1173).bind fun t1176 => (impl_LiveTell.j0 k a0_0 l0_1 l0_2 t1159 t1160 t1176))) = some (r1, r2, r3, r4) := by (rw [hy1170]; with_reducible exact H)
  have Ny1170 := ak hy1170
  clear hy1170
  replace H := Option.bind_eq_some_iff.mp H
  obtain ⟨t1173, A400, H⟩ := H
  have A40 := ak A400
  clear A400
  replace H := Option.bind_eq_some_iff.mp H
  obtain ⟨t1176, A410, H⟩ := H
  have A41 := ak A410
  clear A410
  have H' := ak H
  clear H
  have hnb42 := NB1166_1155.out
  have hnc42 := NB1155_1166.out
  have hnb43 := NB1166_1156.out
  have hnc43 := NB1156_1166.out
  have hnb44 := NB1166_1157.out
  have hnc44 := NB1157_1166.out
  have hcz45_0 := bc w26 BK1166 0 (.int .i64 t1159) rfl
  have hcz45_1 := bc w26 BK1166 1 (.slice Ao22 t1160.length co22) rfl
  have hcz45_2 := bc w26 BK1166 2 (.slice Ao23 t1163.length co23) rfl
  have hfz45_0 := fz BK1166 0
  have hfz45_1 := fz BK1166 1
  have hfz45_2 := fz BK1166 2
  have hnb46 := NB1156_1155.out
  have hnc46 := NB1155_1156.out
  have hnb47 := NB1156_1157.out
  have hnc47 := NB1157_1156.out
  have hcz48_0 := bc w26 BK1156 0 (.int .i64 a1_0) rfl
  have hcz48_1 := bc w26 BK1156 1 (.int .i64 a1_1) rfl
  have hcz48_2 := bc w26 BK1156 2 (.int .i64 a1_2) rfl
  have hfz48_0 := fz BK1156 0
  have hfz48_1 := fz BK1156 1
  have hfz48_2 := fz BK1156 2
  go_wp2_with (first | ((with_reducible refine gate_dst (N := 32) rfl ?_); refine Kd.R_lit k70 _ 70 ?hg (N := 32) ?hd (xs := ([(⟨a1_0, a1_1, a1_2⟩ : S70)] : List (S70))) (inner := [.int .i64 a1_0, .int .i64 a1_1, .int .i64 a1_2]) (ok := fun _ => True) (okp := fun _ => True) ?hr ?hp (fun _ hk => hk) trivial (Below.refl _ _) (Nat.le_refl _) (by simp) ?_; (case hd => rfl); (case hg => rfl); (case hr => (go_simp; done)); (case hp => exact (Reps.c3 (show Kd.M k70 _ _ _ (⟨a1_0, a1_1, a1_2⟩ : S70) [.int .i64 a1_0, .int .i64 a1_1, .int .i64 a1_2] from (k70_mkM _ _ _ (⟨a1_0, a1_1, a1_2⟩ : S70) )) (Reps.none _ _))); intro v1171 w49 ho50 hb hg_ hnew_; clear hg_ hnew_; (rw [← Ny1170.out] at ho50); replace HO1162 := ak (Kd.R_below (rk HO1162) hb); have HO1172 := ak (Kd.R_lower (Kd.R_newB (Kd.R_new' ho50 (Kd.R_lt (rk HO1165))) (bk BK1156)) (below_size (bl4 HB GE1155 GE1156 GE1157 GE1166))); replace HO1165 := ak (Kd.R_elder' (rk HO1165) (Kd.R_base ho50) hb); replace BK1155 := ak (blk_below (bk BK1155) hb); replace BK1156 := ak (blk_below (bk BK1156) hb); replace BK1157 := ak (blk_below (bk BK1157) hb); replace BK1166 := ak (blk_below (bk BK1166) hb); replace HB := ak (below_step (bl4 HB GE1155 GE1156 GE1157 GE1166) hb); clear hb ho50; obtain ⟨Ao51, co51, eo51⟩ := Kd.R_slice HO1172.out; subst eo51) | ((with_reducible refine gate_callee (f := 107) rfl ?_); refine goesL_ (some 33) rfl rfl Try.func107 (by kernel_rfl) rfl #[.slice Ao23 t1163.length co23, .int .i64 t1167, .slice Ao51 y1170.length co51] rfl (by (try simp only [List.map_toArray, List.map_cons, List.map_nil]); rfl) ?_; (with_reducible refine (impl_News_107.calls (fun k_ => some k_ = (.slice Ao23 t1163.length co23 : Value).ownBlock) (.slice Ao23 t1163.length co23) t1163 t1167 (fun k_ => some k_ = (.slice Ao51 y1170.length co51 : Value).ownBlock) (.slice Ao51 y1170.length co51) y1170 t1173 w _ ?side1 ?side2 ?side3 ?side4 ?side5 A40.out).mono ?_); (case side1 => repeat ((with_reducible exact HB.out))); (case side2 => exact Kd.R_tight rfl HO1165.out); (case side3 => exact fun k_ e_ => (HO1165.out.1 k_ e_.symm).2); (case side4 => exact Kd.R_tight rfl HO1172.out); (case side5 => exact fun k_ e_ => (HO1172.out.1 k_ e_.symm).1.2); rintro e w52 ⟨v1174, rfl, ho0, hb, hkp⟩; refine ⟨_, rfl, ?_⟩; have n0_ := ak (blk_kept (bk BK1155) hkp (fun hs_ => Or.elim hs_ (fun e_ => (fun e_ => (Kd.R_ne HO1165.out BK1155.out (by decide)) e_) e_) (fun e_ => (fun e_ => (Kd.R_ne HO1172.out BK1155.out (by decide)) e_) e_))); have n1_ := ak (blk_kept (bk BK1156) hkp (fun hs_ => Or.elim hs_ (fun e_ => (fun e_ => (Kd.R_away HO1165.out (fun _ hk => hk.1.2)) e_) e_) (fun e_ => (fun e_ => (Kd.R_away HO1172.out (fun _ hk => hk.2)) e_) e_))); have n2_ := ak (blk_kept (bk BK1157) hkp (fun hs_ => Or.elim hs_ (fun e_ => (fun e_ => (Kd.R_ne HO1165.out BK1157.out (by decide)) e_) e_) (fun e_ => (fun e_ => (Kd.R_ne HO1172.out BK1157.out (by decide)) e_) e_))); have n3_ := ak (Kd.R_mono (ok' := fun k_ => True) (Kd.R_keptB ((Kd.R_apart' (Kd.R_apart' HO1162.out (Kd.R_typed HO1165.out) (by decide)) (Kd.R_typed HO1172.out) (by decide))) hkp (fun k_ hk_ hs_ => Or.elim hs_ (fun e_ => (hk_.1.2) e_) (fun e_ => (hk_.2) e_))) (fun k_ hk_ => trivial)); have n4_ := ak (blk_kept (bk BK1166) hkp (fun hs_ => Or.elim hs_ (fun e_ => (fun e_ => (Kd.R_ne HO1165.out BK1166.out (by decide)) e_) e_) (fun e_ => (fun e_ => (Kd.R_ne HO1172.out BK1166.out (by decide)) e_) e_))); have n5_ := ak (Kd.R_mono (ok' := fun k_ => k_ ≠ gb1156) ho0 (fun k_ hk_ => Or.elim hk_ (fun hs_ => Or.elim hs_ (fun hs_ => fun e_ => (Kd.R_away HO1165.out (fun _ hk => hk.1.2)) (by rw [← e_]; exact hs_)) (fun hs_ => fun e_ => (Kd.R_away HO1172.out (fun _ hk => hk.2)) (by rw [← e_]; exact hs_))) (fun hn_ => (Kd.freshB (bk BK1156) k_ hn_)))); have n6_ := ak (hb); clear BK1155; clear BK1156; clear BK1157; clear HO1162; clear BK1166; clear HB; clear HO1165; clear HO1172; have BK1155 := n0_; have BK1156 := n1_; have BK1157 := n2_; have HO1162 := n3_; have BK1166 := n4_; have HO1175 := n5_; have HB := n6_; clear n0_ n1_ n2_ n3_ n4_ n5_ n6_; (try clear hb); (try clear hkp); (try clear ho0); obtain ⟨Ao53, co53, eo53⟩ := Kd.R_slice HO1175.out; subst eo53) | ((with_reducible refine gate_callee (f := 101) rfl ?_); refine goesL_ (some 34) rfl rfl Try.func101 (by kernel_rfl) rfl #[.slice Ao53 t1173.length co53] rfl (by (try simp only [List.map_toArray, List.map_cons, List.map_nil]); rfl) ?_; (with_reducible refine (impl_News_101.calls (fun k_ => some k_ = (.slice Ao53 t1173.length co53 : Value).ownBlock) (.slice Ao53 t1173.length co53) t1173 t1176 w _ ?side1 ?side2 A41.out).mono ?_); (case side1 => repeat ((with_reducible exact HB.out))); (case side2 => exact Kd.R_tight rfl HO1175.out); rintro e w54 ⟨v1177, rfl, ho0, hb, hkp⟩; refine ⟨_, rfl, ?_⟩; have n0_ := ak (blk_kept (bk BK1155) hkp (fun hs_ => (fun e_ => (Kd.R_ne HO1175.out BK1155.out (by decide)) e_) hs_)); have n1_ := ak (blk_kept (bk BK1156) hkp (fun hs_ => (fun e_ => (Kd.R_away HO1175.out (fun _ hk => hk)) e_) hs_)); have n2_ := ak (blk_kept (bk BK1157) hkp (fun hs_ => (fun e_ => (Kd.R_ne HO1175.out BK1157.out (by decide)) e_) hs_)); have n3_ := ak (Kd.R_mono (ok' := fun k_ => True) (Kd.R_keptB ((Kd.R_apart' HO1162.out (Kd.R_typed HO1175.out) (by decide))) hkp (fun k_ hk_ hs_ => (hk_.2) hs_)) (fun k_ hk_ => trivial)); have n4_ := ak (blk_kept (bk BK1166) hkp (fun hs_ => (fun e_ => (Kd.R_ne HO1175.out BK1166.out (by decide)) e_) hs_)); have n5_ := ak (Kd.R_mono (ok' := fun k_ => k_ ≠ gb1156) ho0 (fun k_ hk_ => Or.elim hk_ (fun hs_ => fun e_ => (Kd.R_away HO1175.out (fun _ hk => hk)) (by rw [← e_]; exact hs_)) (fun hn_ => (Kd.freshB (bk BK1156) k_ hn_)))); have n6_ := ak (hb); clear BK1155; clear BK1156; clear BK1157; clear HO1162; clear BK1166; clear HB; clear HO1175; have BK1155 := n0_; have BK1156 := n1_; have BK1157 := n2_; have HO1162 := n3_; have BK1166 := n4_; have HO1178 := n5_; have HB := n6_; clear n0_ n1_ n2_ n3_ n4_ n5_ n6_; (try clear hb); (try clear hkp); (try clear ho0); obtain ⟨Ao55, co55, eo55⟩ := Kd.R_slice HO1178.out; subst eo55; have hcz56_0 := bc w54 BK1166 0 (.int .i64 t1159) rfl; have hcz56_1 := bc w54 BK1166 1 (.slice Ao22 t1160.length co22) rfl; have hcz56_2 := bc w54 BK1166 2 (.slice Ao23 t1163.length co23) rfl; have hfz56_0 := fz BK1166 0; have hfz56_1 := fz BK1166 1; have hfz56_2 := fz BK1166 2))
  go_meet
  case rel => exact ⟨_, (a1_0), (a1_1), (a1_2), (t1176), (.slice Ao55 t1176.length co55), H', ⟨by omega⟩, ⟨by exact Kd.R_mono (Kd.R_far (p := ⟨gb1166, 2, none⟩) (Kd.R_types HO1162.out BK1166.out (by decide)) (fun _ hk => hk.2) (.slice Ao55 t1176.length co55)) (fun _ hk => trivial)⟩, ⟨by exact Kd.R_mono (Kd.R_far (p := ⟨gb1166, 2, none⟩) (Kd.R_types HO1178.out BK1166.out (by decide)) (fun _ hk => hk.2) (.slice Ao55 t1176.length co55)) (fun _ hk => hk.1)⟩, ⟨by refine blk_far ?_ NB1155_1166.out _; exact BK1155.out⟩, ⟨by refine blk_far ?_ NB1156_1166.out _; exact BK1156.out⟩, ⟨by refine blk_far ?_ NB1157_1166.out _; exact BK1157.out⟩, ⟨by refine blk_put (cs := #[.int .i64 t1159, .slice Ao22 t1160.length co22, .slice Ao23 t1163.length co23]) ?_ 2 _ rfl; exact BK1166.out⟩, ⟨bl4 HB GE1155 GE1156 GE1157 GE1166⟩⟩
 clear HC7
 try clear c1
 try clear c2
 try clear p2
 try clear c3
 try clear p3
 try clear q3
 try clear hx3
 try clear hf3
 try clear c4
 try clear c7
 try clear c9
 try clear c10
 try clear c11
 try clear c12
 try clear c18
 try clear c19
 try clear c20
 try clear c24
 try clear c27
 try clear c28
 try clear c28b0
 try clear c29
 try clear c29b0
 try clear c30
 try clear p30
 try clear q30
 try clear hx30
 try clear hf30
 try clear c31
 try clear c32
 try clear c33
 try clear c35
 try clear c36
 try clear c38
 try clear hx38
 try clear hf38
 try clear c42
 try clear c43
 try clear c44
 try clear c46
 try clear c47
 try clear c49
 try clear hcz13_0
 try clear hcz13_1
 try clear hcz13_2
 try clear hcz15_0
 try clear hcz15_1
 try clear hcz15_2
 try clear hcz21_0
 try clear hcz21_1
 try clear hcz21_2
 try clear hcz25_0
 try clear hcz25_1
 try clear hcz25_2
 try clear hcz34_0
 try clear hcz34_1
 try clear hcz34_2
 try clear hcz37_0
 try clear hcz37_1
 try clear hcz37_2
 try clear hcz45_0
 try clear hcz45_1
 try clear hcz45_2
 try clear hcz48_0
 try clear hcz48_1
 try clear hcz48_2
 try clear hcz56_0
 try clear hcz56_1
 try clear hcz56_2
 try clear hfz13_0
 try clear hfz13_1
 try clear hfz13_2
 try clear hfz15_0
 try clear hfz15_1
 try clear hfz15_2
 try clear hfz21_0
 try clear hfz21_1
 try clear hfz21_2
 try clear hfz25_0
 try clear hfz25_1
 try clear hfz25_2
 try clear hfz34_0
 try clear hfz34_1
 try clear hfz34_2
 try clear hfz37_0
 try clear hfz37_1
 try clear hfz37_2
 try clear hfz45_0
 try clear hfz45_1
 try clear hfz45_2
 try clear hfz48_0
 try clear hfz48_1
 try clear hfz48_2
 try clear hfz56_0
 try clear hfz56_1
 try clear hfz56_2
 try clear hx30_0
 try clear hx30_1
 try clear hx30_2
 try clear hx38_0
 try clear hx38_1
 try clear hx38_2
 try clear p30
 try clear q30
 obtain ⟨kq, x1157000_6, x1157001_6, x1157002_6, x1167002_6, u1167002, HA, HJ6, HO_1167001, HO_1167002, BK1155, BK1156, BK1157, BK1166, HB⟩ := hcut
 cases kq with
 | zero => exact absurd HA.out (by simp [impl_LiveTell.j0])
 | succ kj6 =>
  have H := HA.out
  clear HA
  simp only [impl_LiveTell.j0] at H
  replace H := Option.bind_eq_some_iff.mp H
  obtain ⟨t1179, A570, H⟩ := H
  have A57 := ak A570
  clear A570
  by_cases c58 : t1179 = true
  ·subst c58
   rw [if_pos rfl] at H
   simp only [Option.some.injEq, Prod.mk.injEq] at H
   obtain ⟨rfl, rfl, rfl, rfl⟩ := H
   have hnb59 := NB1166_1155.out
   have hnc59 := NB1155_1166.out
   have hnb60 := NB1166_1156.out
   have hnc60 := NB1156_1166.out
   have hnb61 := NB1166_1157.out
   have hnc61 := NB1157_1166.out
   have hcz62_0 := bc wc BK1166 0 (.int .i64 t1159) rfl
   have hcz62_1 := bc wc BK1166 1 (.slice Ao22 t1160.length co22) rfl
   have hcz62_2 := bc wc BK1166 2 (u1167002) rfl
   have hfz62_0 := fz BK1166 0
   have hfz62_1 := fz BK1166 1
   have hfz62_2 := fz BK1166 2
   obtain ⟨Ao63, co63, eo63⟩ := Kd.R_slice HO_1167002.out
   subst eo63
   go_wp2_with (((with_reducible refine gate_callee (f := 78) rfl ?_); refine goesL_ (some 37) rfl rfl Try.func78 (by kernel_rfl) rfl #[.agg #[.int .i64 t1159, .slice Ao22 t1160.length co22, .slice Ao63 x1167002_6.length co63]] rfl (by (try simp only [List.map_toArray, List.map_cons, List.map_nil]); rfl) ?_; (with_reducible refine (impl_LiveOk.calls kj6 t1159 _ _ t1160 _ _ x1167002_6 true _ ?side1 ?side2 ?side3 ?side4 A57.out).mono ?_); (case side1 => repeat (exact (Kd.R_reads' HO_1167001.out).2.2)); (case side2 => exact (Kd.R_reads' HO_1167001.out).2.1); (case side3 => repeat (exact (Kd.R_reads' HO_1167002.out).2.2)); (case side4 => exact (Kd.R_reads' HO_1167002.out).2.1); rintro e w64 ⟨rfl, hb⟩; refine ⟨_, rfl, ?_⟩; replace HO_1167001 := ak (Kd.R_below (rk HO_1167001) hb); replace HO_1167002 := ak (Kd.R_below (rk HO_1167002) hb); replace BK1155 := ak (blk_below (bk BK1155) hb); replace BK1156 := ak (blk_below (bk BK1156) hb); replace BK1157 := ak (blk_below (bk BK1157) hb); replace BK1166 := ak (blk_below (bk BK1166) hb); replace HB := ak (below_step (bl4 HB GE1155 GE1156 GE1157 GE1166) hb); (try clear hb); (try clear hb2); (try clear hk); (try clear hi); have hcz65_0 := bc w64 BK1166 0 (.int .i64 t1159) rfl; have hcz65_1 := bc w64 BK1166 1 (.slice Ao22 t1160.length co22) rfl; have hcz65_2 := bc w64 BK1166 2 (.slice Ao63 x1167002_6.length co63) rfl; have hfz65_0 := fz BK1166 0; have hfz65_1 := fz BK1166 1; have hfz65_2 := fz BK1166 2; have hnb66 := NB1157_1155.out; have hnc66 := NB1155_1157.out; have hnb67 := NB1157_1156.out; have hnc67 := NB1156_1157.out; have hcz68_0 := bc w64 BK1157 0 (.int .i64 0) rfl; have hcz68_1 := bc w64 BK1157 1 (.slice none 0 0) rfl; have hcz68_2 := bc w64 BK1157 2 (.slice none 0 0) rfl; have hfz68_0 := fz BK1157 0; have hfz68_1 := fz BK1157 1; have hfz68_2 := fz BK1157 2))
   refine bodyPost_ret (results_ct rfl _ _ gb1157 49 #[.int .i64 t1159, .slice Ao22 t1160.length co22, .slice Ao63 x1167002_6.length co63] (0, 0) _ rfl (by refine blk_put (cs := #[.int .i64 t1159, .slice Ao22 t1160.length co22, .slice none 0 0]) ?_ 2 _ rfl; refine blk_put (cs := #[.int .i64 t1159, .slice none 0 0, .slice none 0 0]) ?_ 1 _ rfl; refine blk_put (cs := #[.int .i64 0, .slice none 0 0, .slice none 0 0]) ?_ 0 _ rfl; exact BK1157.out) Try.underlying49 rfl (by kernel_rfl)) rfl ?_
   exact ⟨_, _, by rfl, by exact Kd.R_mono (Kd.R_far (p := ⟨gb1157, 2, none⟩) (Kd.R_far (p := ⟨gb1157, 1, none⟩) (Kd.R_far (p := ⟨gb1157, 0, none⟩) (Kd.R_types HO_1167001.out BK1157.out (by decide)) (fun _ hk => hk.2) (.int .i64 t1159)) (fun _ hk => hk.2) (.slice Ao22 t1160.length co22)) (fun _ hk => hk.2) (.slice Ao63 x1167002_6.length co63)) (fun _ hk => trivial), by exact Kd.R_mono (Kd.R_far (p := ⟨gb1157, 2, none⟩) (Kd.R_far (p := ⟨gb1157, 1, none⟩) (Kd.R_far (p := ⟨gb1157, 0, none⟩) (Kd.R_types HO_1167002.out BK1157.out (by decide)) (fun _ hk => hk.2) (.int .i64 t1159)) (fun _ hk => hk.2) (.slice Ao22 t1160.length co22)) (fun _ hk => hk.2) (.slice Ao63 x1167002_6.length co63)) (fun _ hk => trivial), bl4 HB GE1155 GE1156 GE1157 GE1166⟩
  replace c58 := Bool.eq_false_iff.mpr c58
  subst c58
  rw [if_neg (show ¬ (false = true) by decide)] at H
  replace H := Option.bind_eq_some_iff.mp H
  obtain ⟨⟨t1180, t1181, t1184⟩, A690, H⟩ := H
  have A69 := ak A690
  clear A690
  simp only [Option.some.injEq, Prod.mk.injEq] at H
  obtain ⟨rfl, rfl, rfl, rfl⟩ := H
  have hnb70 := NB1166_1155.out
  have hnc70 := NB1155_1166.out
  have hnb71 := NB1166_1156.out
  have hnc71 := NB1156_1166.out
  have hnb72 := NB1166_1157.out
  have hnc72 := NB1157_1166.out
  have hcz73_0 := bc wc BK1166 0 (.int .i64 t1159) rfl
  have hcz73_1 := bc wc BK1166 1 (.slice Ao22 t1160.length co22) rfl
  have hcz73_2 := bc wc BK1166 2 (u1167002) rfl
  have hfz73_0 := fz BK1166 0
  have hfz73_1 := fz BK1166 1
  have hfz73_2 := fz BK1166 2
  obtain ⟨Ao74, co74, eo74⟩ := Kd.R_slice HO_1167002.out
  subst eo74
  go_wp2_with (first | ((with_reducible refine gate_callee (f := 78) rfl ?_); refine goesL_ (some 37) rfl rfl Try.func78 (by kernel_rfl) rfl #[.agg #[.int .i64 t1159, .slice Ao22 t1160.length co22, .slice Ao74 x1167002_6.length co74]] rfl (by (try simp only [List.map_toArray, List.map_cons, List.map_nil]); rfl) ?_; (with_reducible refine (impl_LiveOk.calls kj6 t1159 _ _ t1160 _ _ x1167002_6 false _ ?side1 ?side2 ?side3 ?side4 A57.out).mono ?_); (case side1 => repeat (exact (Kd.R_reads' HO_1167001.out).2.2)); (case side2 => exact (Kd.R_reads' HO_1167001.out).2.1); (case side3 => repeat (exact (Kd.R_reads' HO_1167002.out).2.2)); (case side4 => exact (Kd.R_reads' HO_1167002.out).2.1); rintro e w75 ⟨rfl, hb⟩; refine ⟨_, rfl, ?_⟩; replace HO_1167001 := ak (Kd.R_below (rk HO_1167001) hb); replace HO_1167002 := ak (Kd.R_below (rk HO_1167002) hb); replace BK1155 := ak (blk_below (bk BK1155) hb); replace BK1156 := ak (blk_below (bk BK1156) hb); replace BK1157 := ak (blk_below (bk BK1157) hb); replace BK1166 := ak (blk_below (bk BK1166) hb); replace HB := ak (below_step (bl4 HB GE1155 GE1156 GE1157 GE1166) hb); (try clear hb); (try clear hb2); (try clear hk); (try clear hi); have hnb76 := NB1155_1156.out; have hnc76 := NB1156_1155.out; have hnb77 := NB1155_1157.out; have hnc77 := NB1157_1155.out; have hcz78_0 := bc w75 BK1155 0 (.int .i64 a0_0) rfl; have hcz78_1 := bc w75 BK1155 1 (.slice A0_1 l0_1.length c0_1) rfl; have hcz78_2 := bc w75 BK1155 2 (.slice A0_2 l0_2.length c0_2) rfl; have hfz78_0 := fz BK1155 0; have hfz78_1 := fz BK1155 1; have hfz78_2 := fz BK1155 2) | ((with_reducible refine gate_callee (f := 99) rfl ?_); refine goesL_ (some 40) rfl rfl Try.func99 (by kernel_rfl) rfl #[.agg #[.int .i64 a0_0, .slice A0_1 l0_1.length c0_1, .slice A0_2 l0_2.length c0_2]] rfl (by (try simp only [List.map_toArray, List.map_cons, List.map_nil]); rfl) ?_; (with_reducible refine (impl_Live_copied.calls a0_0 _ _ l0_1 _ _ l0_2 t1180 t1181 t1184 _ ?side1 ?side2 ?side3 ?side4 A69.out).mono ?_); (case side1 => repeat (exact (Kd.C_below HR0_1.out HB.out))); (case side2 => exact HC0_1.out); (case side3 => repeat (exact (Kd.C_below HR0_2.out HB.out))); (case side4 => exact HC0_2.out); rintro e w79 ⟨v1182, v1185, rfl, ho0, ho1, hb⟩; refine ⟨_, rfl, ?_⟩; have HO1183 := ak (Kd.R_lower (Kd.R_new' ho0 (Kd.R_lt (rk HO_1167001))) (below_size (bl4 HB GE1155 GE1156 GE1157 GE1166))); replace HO_1167001 := ak (Kd.R_elder' (rk HO_1167001) (Kd.R_base ho0) hb); have HO1186 := ak (Kd.R_lower (Kd.R_newB (Kd.R_new' ho1 (Kd.R_lt (rk HO_1167002))) (bk BK1156)) (below_size (bl4 HB GE1155 GE1156 GE1157 GE1166))); replace HO_1167002 := ak (Kd.R_elder' (rk HO_1167002) (Kd.R_base ho1) hb); replace BK1155 := ak (blk_below (bk BK1155) hb); replace BK1156 := ak (blk_below (bk BK1156) hb); replace BK1157 := ak (blk_below (bk BK1157) hb); replace BK1166 := ak (blk_below (bk BK1166) hb); replace HB := ak (below_step (bl4 HB GE1155 GE1156 GE1157 GE1166) hb); (try clear hb); (try clear hb2); (try clear hk); (try clear hi); (try clear ho0); (try clear ho1); have hnb80 := NB1157_1156.out; have hnc80 := NB1156_1157.out; have hcz81_0 := bc w79 BK1157 0 (.int .i64 0) rfl; have hcz81_1 := bc w79 BK1157 1 (.slice none 0 0) rfl; have hcz81_2 := bc w79 BK1157 2 (.slice none 0 0) rfl; have hfz81_0 := fz BK1157 0; have hfz81_1 := fz BK1157 1; have hfz81_2 := fz BK1157 2; obtain ⟨Ao82, co82, eo82⟩ := Kd.R_slice HO1183.out; subst eo82; obtain ⟨Ao83, co83, eo83⟩ := Kd.R_slice HO1186.out; subst eo83))
  refine bodyPost_ret (results_ct rfl _ _ gb1157 49 #[.int .i64 t1180, .slice Ao82 t1181.length co82, .slice Ao83 t1184.length co83] (0, 0) _ rfl (by refine blk_put (cs := #[.int .i64 t1180, .slice Ao82 t1181.length co82, .slice none 0 0]) ?_ 2 _ rfl; refine blk_put (cs := #[.int .i64 t1180, .slice none 0 0, .slice none 0 0]) ?_ 1 _ rfl; refine blk_put (cs := #[.int .i64 0, .slice none 0 0, .slice none 0 0]) ?_ 0 _ rfl; exact BK1157.out) Try.underlying49 rfl (by kernel_rfl)) rfl ?_
  exact ⟨_, _, by rfl, by exact Kd.R_mono (Kd.R_far (p := ⟨gb1157, 2, none⟩) (Kd.R_far (p := ⟨gb1157, 1, none⟩) (Kd.R_far (p := ⟨gb1157, 0, none⟩) (Kd.R_types HO1183.out BK1157.out (by decide)) (fun _ hk => hk.2) (.int .i64 t1180)) (fun _ hk => hk.2) (.slice Ao82 t1181.length co82)) (fun _ hk => hk.2) (.slice Ao83 t1184.length co83)) (fun _ hk => trivial), by exact Kd.R_mono (Kd.R_far (p := ⟨gb1157, 2, none⟩) (Kd.R_far (p := ⟨gb1157, 1, none⟩) (Kd.R_far (p := ⟨gb1157, 0, none⟩) (Kd.R_types HO1186.out BK1157.out (by decide)) (fun _ hk => hk.2) (.int .i64 t1180)) (fun _ hk => hk.2) (.slice Ao82 t1181.length co82)) (fun _ hk => hk.2) (.slice Ao83 t1184.length co83)) (fun _ hk => trivial), bl4 HB GE1155 GE1156 GE1157 GE1166⟩

end Go.Proofs.Ytbappbbljncdeaa.F
