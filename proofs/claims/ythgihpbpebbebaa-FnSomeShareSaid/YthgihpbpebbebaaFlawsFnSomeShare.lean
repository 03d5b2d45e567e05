-- Printed by wip/px/px.py of this claim's repository (the kit's printer, extended there). Lean checks it.
import Derived.Test.YthgihpbpebbebaaFKinds
import Derived.Test.YthgihpbpebbebaaFspecSomeShare
import Derived.Test.YthgihpbpebbebaaFimplSomeShare
import Derived.Test.YthgihpbpebbebaaFspecDrawSomeShare
import Derived.Test.YthgihpbpebbebaaFimplWalkCost
namespace Go.Proofs.Ythgihpbpebbebaa.F
open Go.RowKit Go.Proofs.YthgihpbpebbebaaW.PrintWords Go.Proofs.YthgihpbpebbebaaW.PrintLast Go.Proofs.YthgihpbpebbebaaW.PrintMore
attribute [local go_sem] max2_int min2_int max_two min_two max_three min_three max_four min_four   -- for this text's walks alone
set_option linter.unusedVariables false
set_option linter.unusedSimpArgs false

/-! ### laws_FnSomeShare: function 6 -/
mutual
def laws_FnSomeShare.j0 : Nat → List Int → List Int → Bool → Option (Bool)
 | 0, _, _, _ => none
 | k + 1, x0, x1, x17 => if x17 = true then (some true) else ((spec_DrawSomeShare.f k x0).bind fun bt381 => ((impl_SomeShare.f k bt381.1 bt381.2.1 bt381.2.2.1 bt381.2.2.2).bind fun t392 => ((spec_SomeShare.f k bt381.1 bt381.2.1 bt381.2.2.1 bt381.2.2.2).bind fun t393 => (if t392 = t393 then (laws_FnSomeShare.j1 k x1 bt381.2.2.1 bt381.2.2.2 t392 (decide (t392 < 0)) bt381.1 bt381.2.1) else (laws_FnSomeShare.j1 k x1 bt381.2.2.1 bt381.2.2.2 t392 true bt381.1 bt381.2.1)))))
def laws_FnSomeShare.j1 : Nat → List Int → List Int → List Int → Int → Bool → Int → List (S31) → Option (Bool)
 | 0, _, _, _, _, _, _, _ => none
 | k + 1, x1, x6, x7, x8, x37, x392000, x392001 => if x37 = true then ((spec_SomeShare.f k x392000 x392001 x6 x7).bind fun t394 => (some (x8 == t394))) else (if (wrap64 ((x6.length : Int) + 1)) = 0 then (none) else ((impl_WalkCost.f k x392000 x392001 x6).bind fun t395 => (if x8 ≤ t395 then ((impl_SomeShare.f k x392000 x392001 x6 x6).bind fun t396 => ((impl_WalkCost.f k x392000 x392001 x6).bind fun t397 => (if t396 = t397 then (if 0 ≤ ((x1.length : Int) % (wrap64 ((x6.length : Int) + 1))) then (if ((x1.length : Int) % (wrap64 ((x6.length : Int) + 1))) ≤ (x6.length : Int) then ((impl_SomeShare.f k x392000 x392001 (x6.take (((x1.length : Int) % (wrap64 ((x6.length : Int) + 1))) : Int).toNat) x7).bind fun t402 => ((impl_SomeShare.f k x392000 x392001 (x6.drop (((x1.length : Int) % (wrap64 ((x6.length : Int) + 1))) : Int).toNat) x7).bind fun t407 => (if (wrap64 (t402 + t407)) = x8 then ((impl_SomeShare.f k x392000 x392001 x6 ([] : List Int)).bind fun t408 => (some (t408 == 0))) else (some false)))) else (none)) else (none)) else (some false)))) else (some false))))
end
def laws_FnSomeShare.f (k : Nat) (l0 : List Int) (l1 : List Int) : Option (Bool) := if (l0.length : Int) > 1048576 then (laws_FnSomeShare.j0 k l0 l1 true) else (laws_FnSomeShare.j0 k l0 l1 (decide ((l1.length : Int) > 1048576)))
theorem laws_FnSomeShare.mono_l : ∀ k, (∀ y0 y1 y2, LeO (laws_FnSomeShare.j0 k y0 y1 y2) (laws_FnSomeShare.j0 (k + 1) y0 y1 y2)) ∧ (∀ y0 y1 y2 y3 y4 y5 y6, LeO (laws_FnSomeShare.j1 k y0 y1 y2 y3 y4 y5 y6) (laws_FnSomeShare.j1 (k + 1) y0 y1 y2 y3 y4 y5 y6))
 | 0 => ⟨fun _ _ _ r h => by simp [laws_FnSomeShare.j0] at h, fun _ _ _ _ _ _ _ r h => by simp [laws_FnSomeShare.j1] at h⟩
 | k + 1 => by
  obtain ⟨ih0, ih1⟩ := laws_FnSomeShare.mono_l k
  refine ⟨?_, ?_⟩
  ·intro y0 y1 y2
   unfold laws_FnSomeShare.j0
   repeat' first
   | (with_reducible exact ih0 _ _ _)
   | (with_reducible exact ih1 _ _ _ _ _ _ _)
   | (with_reducible exact impl_SomeShare.mono _ _ _ _ _)
   | (with_reducible exact impl_WalkCost.mono _ _ _ _)
   | (with_reducible exact spec_DrawSomeShare.mono _ _)
   | (with_reducible exact spec_SomeShare.mono _ _ _ _ _)
   | (with_reducible exact LeO.refl _)
   | (with_reducible exact LeO.none _)
   | (with_reducible refine LeO.ite ?_ ?_)
   | (with_reducible refine LeO.bind ?_ (fun _ => ?_))
   | exact ih0 _ _ _
   | exact ih1 _ _ _ _ _ _ _
   | exact impl_SomeShare.mono _ _ _ _ _
   | exact impl_WalkCost.mono _ _ _ _
   | exact spec_DrawSomeShare.mono _ _
   | exact spec_SomeShare.mono _ _ _ _ _
   | exact LeO.none _
   | refine LeO.ite ?_ ?_
   | refine LeO.bind ?_ (fun _ => ?_)
  ·intro y0 y1 y2 y3 y4 y5 y6
   unfold laws_FnSomeShare.j1
   repeat' first
   | (with_reducible exact ih0 _ _ _)
   | (with_reducible exact ih1 _ _ _ _ _ _ _)
   | (with_reducible exact impl_SomeShare.mono _ _ _ _ _)
   | (with_reducible exact impl_WalkCost.mono _ _ _ _)
   | (with_reducible exact spec_DrawSomeShare.mono _ _)
   | (with_reducible exact spec_SomeShare.mono _ _ _ _ _)
   | (with_reducible exact LeO.refl _)
   | (with_reducible exact LeO.none _)
   | (with_reducible refine LeO.ite ?_ ?_)
   | (with_reducible refine LeO.bind ?_ (fun _ => ?_))
   | exact ih0 _ _ _
   | exact ih1 _ _ _ _ _ _ _
   | exact impl_SomeShare.mono _ _ _ _ _
   | exact impl_WalkCost.mono _ _ _ _
   | exact spec_DrawSomeShare.mono _ _
   | exact spec_SomeShare.mono _ _ _ _ _
   | exact LeO.none _
   | refine LeO.ite ?_ ?_
   | refine LeO.bind ?_ (fun _ => ?_)
theorem laws_FnSomeShare.mono : ∀ a0 a1 k, LeO (laws_FnSomeShare.f k a0 a1) (laws_FnSomeShare.f (k + 1) a0 a1) := by
 intro a0 a1 k
 obtain ⟨ih0, ih1⟩ := laws_FnSomeShare.mono_l k
 unfold laws_FnSomeShare.f
 repeat' first
   | (with_reducible exact ih0 _ _ _)
   | (with_reducible exact ih1 _ _ _ _ _ _ _)
   | (with_reducible exact impl_SomeShare.mono _ _ _ _ _)
   | (with_reducible exact impl_WalkCost.mono _ _ _ _)
   | (with_reducible exact spec_DrawSomeShare.mono _ _)
   | (with_reducible exact spec_SomeShare.mono _ _ _ _ _)
   | (with_reducible exact LeO.refl _)
   | (with_reducible exact LeO.none _)
   | (with_reducible refine LeO.ite ?_ ?_)
   | (with_reducible refine LeO.bind ?_ (fun _ => ?_))
   | exact ih0 _ _ _
   | exact ih1 _ _ _ _ _ _ _
   | exact impl_SomeShare.mono _ _ _ _ _
   | exact impl_WalkCost.mono _ _ _ _
   | exact spec_DrawSomeShare.mono _ _
   | exact spec_SomeShare.mono _ _ _ _ _
   | exact LeO.none _
   | refine LeO.ite ?_ ?_
   | refine LeO.bind ?_ (fun _ => ?_)
def laws_FnSomeShare.T8 : Bool × List (List Nat × List Nat) := (true, [([], []), ([], []), ([], []), ([1, 2], [1, 2]), ([0, 3], [0, 3]), ([4, 3], [4]), ([5], [5]), ([5], [5]), ([5], [5]), ([6, 7, 8, 5, 5], [5, 6, 7, 8]), ([5], [5]), ([5], [5]), ([10, 11, 9, 5], [5, 10, 11]), ([9, 12, 5], [5, 9, 12]), ([5, 13], [5, 13]), ([14, 12], [14]), ([15], [15]), ([15], [15]), ([15], [15]), ([17, 18, 15], [15, 17, 18]), ([15], [15]), ([16, 19, 20, 15, 15], [15, 16, 19, 20]), ([15], [15]), ([15], [15]), ([15], [15]), ([23, 24, 15], [15, 23, 24]), ([15], [15]), ([22, 25, 26, 21, 15], [15, 22, 25, 26]), ([21, 27, 15], [15, 21, 27]), ([15], [15]), ([28, 29, 15], [15, 28, 29]), ([15, 30], [15, 30]), ([31, 27], [31]), ([32], [32]), ([32], [32]), ([33, 34, 32, 32], [32, 33, 34]), ([35, 32], [32, 35]), ([32, 36], [32, 36]), ([37, 35, 0, 1, 2, 3, 4, 5, 6, 7, 8, 9, 10, 11, 12, 13, 14, 15, 16, 17, 18, 19, 20, 21, 22, 23, 24, 25, 26, 27, 28, 29, 30, 31, 32, 33, 34, 35, 36, 37], [37])])
def laws_FnSomeShare.B8 : List Nat := [0, 0, 0, 6, 15, 31, 63, 63, 63, 511, 63, 63, 4095, 8191, 16383, 32767, 65535, 65535, 65535, 458751, 65535, 2097151, 65535, 65535, 65535, 25231359, 65535, 134217727, 268435455, 65535, 1073741823, 2147483647, 4294967295, 8589934591, 8589934591, 34359738367, 68719476735, 137438953471, 274877906943]
theorem laws_FnSomeShare.tab8 : rtab .any (opsOf Try.f6 8) = laws_FnSomeShare.T8 := by kernel_rfl
theorem laws_FnSomeShare.bits8 : waitsOk laws_FnSomeShare.T8.2 laws_FnSomeShare.B8 = true := by kernel_rfl
set_option maxHeartbeats 8000000 in
set_option maxRecDepth 100000 in
theorem laws_FnSomeShare.calls (k : Nat) (A0 : Option Addr) (c0 : Nat) (l0 : List Int) (A1 : Option Addr) (c1 : Nat) (l1 : List Int) (r : Bool) (w : World) (hr0 : Kd.C (Kd.int .u8) w A0 l0.length l0) (hc0 : l0.length ≤ c0) (hr1 : Kd.C (Kd.int .u8) w A1 l1.length l1) (hc1 : l1.length ≤ c1) (h : laws_FnSomeShare.f k l0 l1 = some r) (hr_ : r = true) :
  Calls Try.prog 6 #[.slice A0 l0.length c0, .slice A1 l1.length c1] w fun e w' => e = .returned (.bool r) ∧ Below w.heap.size w w' := by
 have hu25 := Try.underlying25
 have HR0 := Aside0.mk hr0
 have HC0 := Aside0.mk hc0
 clear hr0 hc0
 have HR1 := Aside0.mk hr1
 have HC1 := Aside0.mk hc1
 clear hr1 hc1
 have HB := Aside0.mk (Below.refl w.heap.size w)
 have H : (if (l0.length : Int) > 1048576 then (laws_FnSomeShare.j0 k l0 l1 true) else (laws_FnSomeShare.j0 k l0 l1 (decide ((l1.length : Int) > 1048576)))) = some r := h
 clear h
 have HC3 := Aside0.mk H
 clear H
 go_enter Try.func6, Try.ntmps6
 go_upto_region 1 with (fail)
 go_cut [17] (fun v17 wc => ∃ (kq : Nat) (x17_2 : Bool), v17 = .bool x17_2 ∧ Aside0 (laws_FnSomeShare.j0 kq l0 l1 x17_2 = some r) ∧ Aside0 (kq ≤ k) ∧ Aside0 (Below w.heap.size w wc))
 case first =>
  have H := HC3.out
  clear HC3
  by_cases c4 : (l0.length : Int) > 1048576
  ·rw [if_pos c4] at H
   have c4b0 : decide (1048576 < (l0.length : Int)) = true := decide_eq_true c4
   have c4b1 : decide (1048576 < l0.length) = true := decide_eq_true (by omega)
   clear c4
   (first | rw [c4b0] | (simp only [i64_w, i32_w]; rw [c4b0]) | skip)
   have H' := Aside0.mk H
   clear H
   go_wp2
   go_meet
   case rel => exact ⟨_, (true), (by first | rfl | (simp; done) | (simp [*]; done)), H', ⟨by first | omega | exact Nat.le_refl _⟩, ⟨bl HB⟩⟩
  ·rw [if_neg c4] at H
   have c4b0 : decide (1048576 < (l0.length : Int)) = false := decide_eq_false c4
   have c4b1 : decide (1048576 < l0.length) = false := decide_eq_false (by omega)
   clear c4
   (first | rw [c4b0] | (simp only [i64_w, i32_w]; rw [c4b0]) | skip)
   have H' := Aside0.mk H
   clear H
   go_wp2
   go_meet
   case rel => exact ⟨_, (decide ((l1.length : Int) > 1048576)), (by first | rfl | (simp; done) | (simp [*]; done)), H', ⟨by first | omega | exact Nat.le_refl _⟩, ⟨bl HB⟩⟩
 case rest =>
  clear HC3
  try clear c1
  try clear p2
  try clear c4
  try clear c4b0
  try clear c4b1
  obtain ⟨kq, x17_2, rfl, HA, HJ2, HB⟩ := hcut
  cases kq with
  | zero => exact absurd HA.out (by simp [laws_FnSomeShare.j0])
  | succ kj2 =>
   have H := HA.out
   clear HA
   simp only [laws_FnSomeShare.j0] at H
   by_cases c5 : x17_2 = true
   ·subst c5
    rw [if_pos rfl] at H
    obtain rfl := Option.some.inj H
    go_wp2
    go_ret
    exact ⟨by first | rfl | (simp [errW_none, errW_some] <;> rfl) | (simp [*, errW_none, errW_some] <;> rfl), bl HB⟩
   ·replace c5 := Bool.eq_false_iff.mpr c5
    subst c5
    rw [if_neg (show ¬ (false = true) by decide)] at H
    replace H := Option.bind_eq_some_iff.mp H
    obtain ⟨⟨t381, t382, t385, t388⟩, A60, H⟩ := H
    have A6 := Aside0.mk A60
    clear A60
    replace H := Option.bind_eq_some_iff.mp H
    obtain ⟨t392, A70, H⟩ := H
    have A7 := Aside0.mk A70
    clear A70
    have HC8 := Aside0.mk H
    clear H
    go_upto_region 5 with (first | ((with_reducible refine gate_callee (f := 29) rfl ?_); refine goesL_ (some 20) rfl rfl Try.func29 (by kernel_rfl) rfl #[.slice A0 l0.length c0] rfl (by (try simp only [List.map_toArray, List.map_cons, List.map_nil]); first | done | rfl | (simp only [List.length_drop, List.length_take]; rfl)) ?_; (with_reducible refine (spec_DrawSomeShare.calls kj2 _ _ l0 t381 t382 t385 t388 _ ?side1 ?side2 A6.out).mono ?_); (case side1 => repeat (first | exact (Kd.C_below HR0.out HB.out) | (with_reducible refine Kd.C_alloc ?_ _) | (with_reducible refine Kd.C_drewN ?_ _) | (with_reducible refine Kd.C_drew ?_))); (case side2 => exact HC0.out); rintro e w9 ⟨v383, v386, v389, rfl, ho0, ho1, ho2, hb⟩; refine ⟨_, rfl, ?_⟩; have n0_ := Aside0.mk (Kd.R_lower ho0 (below_size (bl HB))); have n1_ := Aside0.mk (Kd.R_lower ho1 (below_size (bl HB))); have n2_ := Aside0.mk (Kd.R_lower ho2 (below_size (bl HB))); have n3_ := Aside0.mk (below_step (bl HB) hb); clear HB; have HO384 := n0_; have HO387 := n1_; have HO390 := n2_; have HB := n3_; clear n0_ n1_ n2_ n3_; (try clear hb); (try clear hb2); (try clear hk); (try clear hi); (try clear ho0); (try clear ho1); (try clear ho2)) | ((with_reducible refine gate_dst (N := 5) rfl ?_); refine box_event ?hg (N := 5) ?hd (cs := #[.int .i64 0, .slice none 0 0]) (t := 25) ?hr ?_; (case hd => rfl); (case hg => rfl); (case hr => first | (go_simp; done) | (go_simp; rfl)); intro gb391 hg w10 hbox hb; have n0_ := Aside0.mk (Kd.R_below (rk HO384) hb); have n1_ := Aside0.mk (Kd.R_below (rk HO387) hb); have n2_ := Aside0.mk (Kd.R_below (rk HO390) hb); have n3_ := Aside0.mk (below_step (bl HB) hb); have n4_ := Aside0.mk (hbox); have n5_ := Aside0.mk ((by rw [hg]; exact (below_size (bl HB)) : w.heap.size ≤ gb391)); have n6_ := Aside0.mk ((by rw [hg]; exact (below_size (bl HB)) : w.heap.size ≤ gb391)); clear HO384; clear HO387; clear HO390; clear HB; have HO384 := n0_; have HO387 := n1_; have HO390 := n2_; have HB := n3_; have BK391 := n4_; have GW391 := n5_; have GE391 := n6_; clear n0_ n1_ n2_ n3_ n4_ n5_ n6_; clear hb hbox hg; have hcz11_0 : w10.cell? ⟨gb391, 0, none⟩ = some (.int .i64 0) := (blk_cell BK391.out 0).trans rfl; have hcz11_1 : w10.cell? ⟨gb391, 1, none⟩ = some (.slice none 0 0) := (blk_cell BK391.out 1).trans rfl; have hfz11_0 := blk_frozen BK391.out 0; have hfz11_1 := blk_frozen BK391.out 1; obtain ⟨Ao12, co12, eo12⟩ := Kd.R_slice HO384.out; subst eo12; obtain ⟨Ao13, co13, eo13⟩ := Kd.R_slice HO387.out; subst eo13; obtain ⟨Ao14, co14, eo14⟩ := Kd.R_slice HO390.out; subst eo14) | ((with_reducible refine gate_callee (f := 27) rfl ?_); refine goesL_ (some 27) rfl rfl Try.func27 (by kernel_rfl) rfl #[.agg #[.int .i64 t381, .slice Ao12 t382.length co12], .slice Ao13 t385.length co13, .slice Ao14 t388.length co14] rfl (by (try simp only [List.map_toArray, List.map_cons, List.map_nil]); first | done | rfl | (simp only [List.length_drop, List.length_take]; rfl)) ?_; (with_reducible refine (impl_SomeShare.calls kj2 t381 _ _ t382 _ _ t385 _ _ t388 t392 _ ?side1 ?side2 ?side3 ?side4 ?side5 ?side6 A7.out).mono ?_); (case side1 => refine (Kd.R_reads' (e := 31) (base := w.heap.size) (ok := fun k_ => True) (n := t382.length) (c := co12) ?_).2.2; exact (by (with_reducible repeat (first | apply Kd.R_alloc | apply Kd.R_drewN | apply Kd.R_drew)); exact (Kd.R_mono (Kd.R_far (p := ⟨gb391, 1, none⟩) (Kd.R_far (p := ⟨gb391, 0, none⟩) (Kd.R_types HO384.out BK391.out (by decide)) (fun _ hk => hk.2) (.int .i64 t381)) (fun _ hk => hk.2) (.slice Ao12 t382.length co12)) (fun _ h_ => h_.1)))); (case side2 => exact (Kd.R_reads' HO384.out).2.1); (case side3 => refine (Kd.R_reads' (e := 3) (base := w.heap.size) (ok := fun k_ => some k_ ≠ (.slice Ao14 t388.length co14 : Value).ownBlock) (n := t385.length) (c := co13) ?_).2.2; exact (by (with_reducible repeat (first | apply Kd.R_alloc | apply Kd.R_drewN | apply Kd.R_drew)); exact (Kd.R_mono (Kd.R_far (p := ⟨gb391, 1, none⟩) (Kd.R_far (p := ⟨gb391, 0, none⟩) (Kd.R_types HO387.out BK391.out (by decide)) (fun _ hk => hk.2) (.int .i64 t381)) (fun _ hk => hk.2) (.slice Ao12 t382.length co12)) (fun _ h_ => h_.1)))); (case side4 => exact (Kd.R_reads' HO387.out).2.1); (case side5 => refine (Kd.R_reads' (e := 3) (base := w.heap.size) (ok := fun k_ => some k_ ≠ (.slice Ao13 t385.length co13 : Value).ownBlock) (n := t388.length) (c := co14) ?_).2.2; exact (by (with_reducible repeat (first | apply Kd.R_alloc | apply Kd.R_drewN | apply Kd.R_drew)); exact (Kd.R_mono (Kd.R_far (p := ⟨gb391, 1, none⟩) (Kd.R_far (p := ⟨gb391, 0, none⟩) (Kd.R_types HO390.out BK391.out (by decide)) (fun _ hk => hk.2) (.int .i64 t381)) (fun _ hk => hk.2) (.slice Ao12 t382.length co12)) (fun _ h_ => h_.1)))); (case side6 => exact (Kd.R_reads' HO390.out).2.1); rintro e w15 ⟨rfl, hb⟩; refine ⟨_, rfl, ?_⟩; have n0_ := Aside0.mk (Kd.R_below (by (with_reducible repeat (first | apply Kd.R_alloc | apply Kd.R_drewN | apply Kd.R_drew)); exact (Kd.R_mono (Kd.R_far (p := ⟨gb391, 1, none⟩) (Kd.R_far (p := ⟨gb391, 0, none⟩) (Kd.R_types HO384.out BK391.out (by decide)) (fun _ hk => hk.2) (.int .i64 t381)) (fun _ hk => hk.2) (.slice Ao12 t382.length co12)) (fun _ h_ => h_.1))) hb); have n1_ := Aside0.mk (Kd.R_below (by (with_reducible repeat (first | apply Kd.R_alloc | apply Kd.R_drewN | apply Kd.R_drew)); exact (Kd.R_mono (Kd.R_far (p := ⟨gb391, 1, none⟩) (Kd.R_far (p := ⟨gb391, 0, none⟩) (Kd.R_types HO387.out BK391.out (by decide)) (fun _ hk => hk.2) (.int .i64 t381)) (fun _ hk => hk.2) (.slice Ao12 t382.length co12)) (fun _ h_ => h_.1))) hb); have n2_ := Aside0.mk (Kd.R_below (by (with_reducible repeat (first | apply Kd.R_alloc | apply Kd.R_drewN | apply Kd.R_drew)); exact (Kd.R_mono (Kd.R_far (p := ⟨gb391, 1, none⟩) (Kd.R_far (p := ⟨gb391, 0, none⟩) (Kd.R_types HO390.out BK391.out (by decide)) (fun _ hk => hk.2) (.int .i64 t381)) (fun _ hk => hk.2) (.slice Ao12 t382.length co12)) (fun _ h_ => h_.1))) hb); have n3_ := Aside0.mk (blk_below (g := gb391) (o := .cells #[.int .i64 t381, .slice Ao12 t382.length co12] 25 (0, 0)) (by (with_reducible repeat (first | refine blk_drewN ?_ _ | refine blk_drew ?_ | refine blk_alloc ?_ _)); refine blk_put (cs := #[.int .i64 t381, .slice none 0 0]) ?_ 1 _ rfl; (with_reducible repeat (first | refine blk_drewN ?_ _ | refine blk_drew ?_ | refine blk_alloc ?_ _)); refine blk_put (cs := #[.int .i64 0, .slice none 0 0]) ?_ 0 _ rfl; (with_reducible repeat (first | refine blk_drewN ?_ _ | refine blk_drew ?_ | refine blk_alloc ?_ _)); exact BK391.out) hb); have n4_ := Aside0.mk (below_step (bl1 HB GE391) hb); clear HO384; clear HO387; clear HO390; clear BK391; clear HB; have HO384 := n0_; have HO387 := n1_; have HO390 := n2_; have BK391 := n3_; have HB := n4_; clear n0_ n1_ n2_ n3_ n4_; (try clear hb); (try clear hb2); (try clear hk); (try clear hi)))
    (try simp only [Act.put, List.setIfInBounds_toArray, List.set_cons_zero, List.set_cons_succ])
    go_cut [37] (fun v37 wc => ∃ (kq : Nat) (x37_7 : Bool), v37 = .bool x37_7 ∧ Aside0 (laws_FnSomeShare.j1 kq l1 t385 t388 t392 x37_7 t381 t382 = some r) ∧ Aside0 (kq ≤ kj2) ∧ Aside0 (Kd.R (Kd.int .i64) 3 wc w.heap.size (fun k_ => some k_ ≠ ((.slice Ao14 t388.length co14) : Value).ownBlock) (.slice Ao13 t385.length co13) t385) ∧ Aside0 (Kd.R (Kd.int .i64) 3 wc w.heap.size (fun k_ => some k_ ≠ ((.slice Ao13 t385.length co13) : Value).ownBlock) (.slice Ao14 t388.length co14) t388) ∧ Aside0 (Kd.R k31 31 wc w.heap.size (fun _ => True) (.slice Ao12 t382.length co12) t382) ∧ Aside0 (wc.heap[gb391]? = some (.cells #[.int .i64 t381, (.slice Ao12 t382.length co12)] 25 (0, 0))) ∧ Aside0 (Below w.heap.size w wc))
    case first =>
     have H := HC8.out
     clear HC8
     replace H := Option.bind_eq_some_iff.mp H
     obtain ⟨t393, A160, H⟩ := H
     have A16 := Aside0.mk A160
     clear A160
     by_cases c17 : t392 = t393
     ·rw [if_pos c17] at H
      have c17b0 : (t392 == t393) = true := beq_iff_eq.mpr c17
      have c17b1 : (t392 != t393) = false := bne_eq_false_iff_eq.mpr c17
      clear c17
      (first | rw [c17b0] | (simp only [i64_w, i32_w]; rw [c17b0]) | skip)
      have H' := Aside0.mk H
      clear H
      have hcz18_0 : w15.cell? ⟨gb391, 0, none⟩ = some (.int .i64 t381) := (blk_cell BK391.out 0).trans rfl
      have hcz18_1 : w15.cell? ⟨gb391, 1, none⟩ = some (.slice Ao12 t382.length co12) := (blk_cell BK391.out 1).trans rfl
      have hfz18_0 := blk_frozen BK391.out 0
      have hfz18_1 := blk_frozen BK391.out 1
      go_wp2_with (first | ((with_reducible refine gate_callee (f := 25) rfl ?_); refine goesL_ (some 32) rfl rfl Try.func25 (by kernel_rfl) rfl #[.agg #[.int .i64 t381, .slice Ao12 t382.length co12], .slice Ao13 t385.length co13, .slice Ao14 t388.length co14] rfl (by (try simp only [List.map_toArray, List.map_cons, List.map_nil]); first | done | rfl | (simp only [List.length_drop, List.length_take]; rfl)) ?_; (with_reducible refine (spec_SomeShare.calls kj2 t381 _ _ t382 _ _ t385 _ _ t388 t393 _ ?side1 ?side2 ?side3 ?side4 ?side5 ?side6 A16.out).mono ?_); (case side1 => repeat (first | exact (Kd.R_reads' HO384.out).2.2 | (with_reducible refine Kd.C_alloc ?_ _) | (with_reducible refine Kd.C_drewN ?_ _) | (with_reducible refine Kd.C_drew ?_))); (case side2 => exact (Kd.R_reads' HO384.out).2.1); (case side3 => repeat (first | exact (Kd.R_reads' HO387.out).2.2 | (with_reducible refine Kd.C_alloc ?_ _) | (with_reducible refine Kd.C_drewN ?_ _) | (with_reducible refine Kd.C_drew ?_))); (case side4 => exact (Kd.R_reads' HO387.out).2.1); (case side5 => repeat (first | exact (Kd.R_reads' HO390.out).2.2 | (with_reducible refine Kd.C_alloc ?_ _) | (with_reducible refine Kd.C_drewN ?_ _) | (with_reducible refine Kd.C_drew ?_))); (case side6 => exact (Kd.R_reads' HO390.out).2.1); rintro e w19 ⟨rfl, hb⟩; refine ⟨_, rfl, ?_⟩; have n0_ := Aside0.mk (Kd.R_below (rk HO384) hb); have n1_ := Aside0.mk (Kd.R_below (rk HO387) hb); have n2_ := Aside0.mk (Kd.R_below (rk HO390) hb); have n3_ := Aside0.mk (blk_below (bk BK391) hb); have n4_ := Aside0.mk (below_step (bl1 HB GE391) hb); clear HO384; clear HO387; clear HO390; clear BK391; clear HB; have HO384 := n0_; have HO387 := n1_; have HO390 := n2_; have BK391 := n3_; have HB := n4_; clear n0_ n1_ n2_ n3_ n4_; (try clear hb); (try clear hb2); (try clear hk); (try clear hi)))
      go_meet
      case rel => exact ⟨_, (decide (t392 < 0)), (by first | rfl | (simp; done) | (simp [*]; done)), H', ⟨by have := HJ2.out; first | omega | exact Nat.le_refl _⟩, ⟨rk HO387⟩, ⟨rk HO390⟩, ⟨rk HO384⟩, ⟨bk BK391⟩, ⟨bl1 HB GE391⟩⟩
     ·rw [if_neg c17] at H
      have c17b0 : (t392 == t393) = false := beq_eq_false_iff_ne.mpr c17
      have c17b1 : (t392 != t393) = true := bne_iff_ne.mpr c17
      (first | rw [c17b0] | (simp only [i64_w, i32_w]; rw [c17b0]) | skip)
      have H' := Aside0.mk H
      clear H
      have hcz20_0 : w15.cell? ⟨gb391, 0, none⟩ = some (.int .i64 t381) := (blk_cell BK391.out 0).trans rfl
      have hcz20_1 : w15.cell? ⟨gb391, 1, none⟩ = some (.slice Ao12 t382.length co12) := (blk_cell BK391.out 1).trans rfl
      have hfz20_0 := blk_frozen BK391.out 0
      have hfz20_1 := blk_frozen BK391.out 1
      go_wp2_with (first | ((with_reducible refine gate_callee (f := 25) rfl ?_); refine goesL_ (some 32) rfl rfl Try.func25 (by kernel_rfl) rfl #[.agg #[.int .i64 t381, .slice Ao12 t382.length co12], .slice Ao13 t385.length co13, .slice Ao14 t388.length co14] rfl (by (try simp only [List.map_toArray, List.map_cons, List.map_nil]); first | done | rfl | (simp only [List.length_drop, List.length_take]; rfl)) ?_; (with_reducible refine (spec_SomeShare.calls kj2 t381 _ _ t382 _ _ t385 _ _ t388 t393 _ ?side1 ?side2 ?side3 ?side4 ?side5 ?side6 A16.out).mono ?_); (case side1 => repeat (first | exact (Kd.R_reads' HO384.out).2.2 | (with_reducible refine Kd.C_alloc ?_ _) | (with_reducible refine Kd.C_drewN ?_ _) | (with_reducible refine Kd.C_drew ?_))); (case side2 => exact (Kd.R_reads' HO384.out).2.1); (case side3 => repeat (first | exact (Kd.R_reads' HO387.out).2.2 | (with_reducible refine Kd.C_alloc ?_ _) | (with_reducible refine Kd.C_drewN ?_ _) | (with_reducible refine Kd.C_drew ?_))); (case side4 => exact (Kd.R_reads' HO387.out).2.1); (case side5 => repeat (first | exact (Kd.R_reads' HO390.out).2.2 | (with_reducible refine Kd.C_alloc ?_ _) | (with_reducible refine Kd.C_drewN ?_ _) | (with_reducible refine Kd.C_drew ?_))); (case side6 => exact (Kd.R_reads' HO390.out).2.1); rintro e w21 ⟨rfl, hb⟩; refine ⟨_, rfl, ?_⟩; have n0_ := Aside0.mk (Kd.R_below (rk HO384) hb); have n1_ := Aside0.mk (Kd.R_below (rk HO387) hb); have n2_ := Aside0.mk (Kd.R_below (rk HO390) hb); have n3_ := Aside0.mk (blk_below (bk BK391) hb); have n4_ := Aside0.mk (below_step (bl1 HB GE391) hb); clear HO384; clear HO387; clear HO390; clear BK391; clear HB; have HO384 := n0_; have HO387 := n1_; have HO390 := n2_; have BK391 := n3_; have HB := n4_; clear n0_ n1_ n2_ n3_ n4_; (try clear hb); (try clear hb2); (try clear hk); (try clear hi)))
      go_meet
      case rel => exact ⟨_, (true), (by first | rfl | (simp; done) | (simp [*]; done)), H', ⟨by have := HJ2.out; first | omega | exact Nat.le_refl _⟩, ⟨rk HO387⟩, ⟨rk HO390⟩, ⟨rk HO384⟩, ⟨bk BK391⟩, ⟨bl1 HB GE391⟩⟩
    case rest =>
     clear HC8
     try clear c1
     try clear c2
     try clear p2
     try clear c4
     try clear c4b0
     try clear c4b1
     try clear c5
     try clear c6
     try clear c17
     try clear c17b0
     try clear c17b1
     try clear hcz11_0
     try clear hcz11_1
     try clear hcz18_0
     try clear hcz18_1
     try clear hcz20_0
     try clear hcz20_1
     try clear hfz11_0
     try clear hfz11_1
     try clear hfz18_0
     try clear hfz18_1
     try clear hfz20_0
     try clear hfz20_1
     try clear p2
     obtain ⟨kq, x37_7, rfl, HA, HJ7, HO_6, HO_7, HO_392001, BK391, HB⟩ := hcut
     cases kq with
     | zero => exact absurd HA.out (by simp [laws_FnSomeShare.j1])
     | succ kj7 =>
      have H := HA.out
      clear HA
      simp only [laws_FnSomeShare.j1] at H
      by_cases c22 : x37_7 = true
      ·subst c22
       rw [if_pos rfl] at H
       replace H := Option.bind_eq_some_iff.mp H
       obtain ⟨t394, A230, H⟩ := H
       have A23 := Aside0.mk A230
       clear A230
       obtain rfl := Option.some.inj H
       have hcz24_0 : wc.cell? ⟨gb391, 0, none⟩ = some (.int .i64 t381) := (blk_cell BK391.out 0).trans rfl
       have hcz24_1 : wc.cell? ⟨gb391, 1, none⟩ = some (.slice Ao12 t382.length co12) := (blk_cell BK391.out 1).trans rfl
       have hfz24_0 := blk_frozen BK391.out 0
       have hfz24_1 := blk_frozen BK391.out 1
       go_wp2_with (first | ((with_reducible refine gate_callee (f := 25) rfl ?_); refine goesL_ (some 42) rfl rfl Try.func25 (by kernel_rfl) rfl #[.agg #[.int .i64 t381, .slice Ao12 t382.length co12], .slice Ao13 t385.length co13, .slice Ao14 t388.length co14] rfl (by (try simp only [List.map_toArray, List.map_cons, List.map_nil]); first | done | rfl | (simp only [List.length_drop, List.length_take]; rfl)) ?_; (with_reducible refine (spec_SomeShare.calls kj7 t381 _ _ t382 _ _ t385 _ _ t388 t394 _ ?side1 ?side2 ?side3 ?side4 ?side5 ?side6 A23.out).mono ?_); (case side1 => repeat (first | exact (Kd.R_reads' HO_392001.out).2.2 | (with_reducible refine Kd.C_alloc ?_ _) | (with_reducible refine Kd.C_drewN ?_ _) | (with_reducible refine Kd.C_drew ?_))); (case side2 => exact (Kd.R_reads' HO_392001.out).2.1); (case side3 => repeat (first | exact (Kd.R_reads' HO_6.out).2.2 | (with_reducible refine Kd.C_alloc ?_ _) | (with_reducible refine Kd.C_drewN ?_ _) | (with_reducible refine Kd.C_drew ?_))); (case side4 => exact (Kd.R_reads' HO_6.out).2.1); (case side5 => repeat (first | exact (Kd.R_reads' HO_7.out).2.2 | (with_reducible refine Kd.C_alloc ?_ _) | (with_reducible refine Kd.C_drewN ?_ _) | (with_reducible refine Kd.C_drew ?_))); (case side6 => exact (Kd.R_reads' HO_7.out).2.1); rintro e w25 ⟨rfl, hb⟩; refine ⟨_, rfl, ?_⟩; have n0_ := Aside0.mk (Kd.R_below (rk HO_6) hb); have n1_ := Aside0.mk (Kd.R_below (rk HO_7) hb); have n2_ := Aside0.mk (Kd.R_below (rk HO_392001) hb); have n3_ := Aside0.mk (blk_below (bk BK391) hb); have n4_ := Aside0.mk (below_step (bl1 HB GE391) hb); clear HO_6; clear HO_7; clear HO_392001; clear BK391; clear HB; have HO_6 := n0_; have HO_7 := n1_; have HO_392001 := n2_; have BK391 := n3_; have HB := n4_; clear n0_ n1_ n2_ n3_ n4_; (try clear hb); (try clear hb2); (try clear hk); (try clear hi)))
       go_ret
       exact ⟨by first | rfl | (simp [errW_none, errW_some] <;> rfl) | (simp [*, errW_none, errW_some] <;> rfl), bl1 HB GE391⟩
      ·replace c22 := Bool.eq_false_iff.mpr c22
       subst c22
       rw [if_neg (show ¬ (false = true) by decide)] at H
       by_cases c26 : (wrap64 ((t385.length : Int) + 1)) = 0
       ·rw [if_pos c26] at H
        exact absurd H (by simp)
       ·rw [if_neg c26] at H
        have c26b0 : ((wrap64 ((t385.length : Int) + 1)) == 0) = false := beq_eq_false_iff_ne.mpr c26
        have c26b1 : ((wrap64 ((t385.length : Int) + 1)) != 0) = true := bne_iff_ne.mpr c26
        replace H := Option.bind_eq_some_iff.mp H
        obtain ⟨t395, A270, H⟩ := H
        have A27 := Aside0.mk A270
        clear A270
        by_cases c28 : t392 ≤ t395
        ·rw [if_pos c28] at H
         have c28b0 : decide (t392 ≤ t395) = true := decide_eq_true c28
         clear c28
         replace H := Option.bind_eq_some_iff.mp H
         obtain ⟨t396, A290, H⟩ := H
         have A29 := Aside0.mk A290
         clear A290
         replace H := Option.bind_eq_some_iff.mp H
         obtain ⟨t397, A300, H⟩ := H
         have A30 := Aside0.mk A300
         clear A300
         by_cases c31 : t396 = t397
         ·rw [if_pos c31] at H
          have c31b0 : (t396 == t397) = true := beq_iff_eq.mpr c31
          have c31b1 : (t396 != t397) = false := bne_eq_false_iff_eq.mpr c31
          clear c31
          obtain ⟨ji32, hji32⟩ : ∃ j_ : Int, ((l1.length : Int) % (wrap64 ((t385.length : Int) + 1))) = j_ := ⟨_, rfl⟩
          replace H : (if 0 ≤ (ji32) then (if (ji32) ≤ (t385.length : Int) then ((impl_SomeShare.f kj7 t381 t382 (t385.take ((ji32) : Int).toNat) t388).bind fun t402 => ((impl_SomeShare.f kj7 t381 t382 (t385.drop ((ji32) : Int).toNat) t388).bind fun t407 => (if (wrap64 (t402 + t407)) = t392 then ((impl_SomeShare.f kj7 t381 t382 t385 ([] : List Int)).bind fun t408 => (some (t408 == 0))) else (some false)))) else (none)) else (none)) = some r := by first | (rw [hji32] at H; exact H) | (simp only [hji32] at H ⊢; exact H)
          (try rw [hji32] at A27)
          (try rw [hji32] at A29)
          (try rw [hji32] at A30)
          by_cases c33 : 0 ≤ (ji32)
          ·rw [if_pos c33] at H
           have c33b0 := eq_true c33
           have c33b1 : decide (0 ≤ (ji32)) = true := decide_eq_true c33
           clear c33
           by_cases c34 : (ji32) ≤ (t385.length : Int)
           ·rw [if_pos c34] at H
            have c34b0 := eq_true c34
            have c34b1 : decide ((ji32) ≤ (t385.length : Int)) = true := decide_eq_true c34
            clear c34
            obtain ⟨y398, hy398⟩ : ∃ y_ : List Int, y_ = (t385.take ((ji32) : Int).toNat) := ⟨_, rfl⟩
            replace H : ((impl_SomeShare.f kj7 t381 t382 y398 t388).bind fun t402 => ((impl_SomeShare.f kj7 t381 t382 (t385.drop ((ji32) : Int).toNat) t388).bind fun t407 => (if (wrap64 (t402 + t407)) = t392 then ((impl_SomeShare.f kj7 t381 t382 t385 ([] : List Int)).bind fun t408 => (some (t408 == 0))) else (some false)))) = some r := by first | (rw [hy398]; with_reducible exact H) | (have H2_ := (Option.bind_some _ _).symm.trans H; rw [hy398]; with_reducible exact H2_) | (have H2_ := (Option.bind_some _ _).symm.trans H; with_reducible exact H2_) | with_reducible exact H | (rw [hy398]; exact H) | exact H
            have Ny398 := Aside0.mk hy398
            clear hy398
            replace H := Option.bind_eq_some_iff.mp H
            obtain ⟨t402, A350, H⟩ := H
            have A35 := Aside0.mk A350
            clear A350
            have c36b0 := eq_true (oT (by first | (with_reducible assumption) | assumption) : 0 ≤ (ji32))
            have c37b0 := eq_true (oT (by first | (with_reducible assumption) | assumption) : (ji32) ≤ (t385.length : Int))
            obtain ⟨y403, hy403⟩ : ∃ y_ : List Int, y_ = (t385.drop ((ji32) : Int).toNat) := ⟨_, rfl⟩
            replace H : ((impl_SomeShare.f kj7 t381 t382 y403 t388).bind fun t407 => (if (wrap64 (t402 + t407)) = t392 then ((impl_SomeShare.f kj7 t381 t382 t385 ([] : List Int)).bind fun t408 => (some (t408 == 0))) else (some false))) = some r := by first | (rw [hy403]; with_reducible exact H) | (have H2_ := (Option.bind_some _ _).symm.trans H; rw [hy403]; with_reducible exact H2_) | (have H2_ := (Option.bind_some _ _).symm.trans H; with_reducible exact H2_) | with_reducible exact H | (rw [hy403]; exact H) | exact H
            have Ny403 := Aside0.mk hy403
            clear hy403
            replace H := Option.bind_eq_some_iff.mp H
            obtain ⟨t407, A380, H⟩ := H
            have A38 := Aside0.mk A380
            clear A380
            by_cases c39 : (wrap64 (t402 + t407)) = t392
            ·rw [if_pos c39] at H
             have c39b0 : ((wrap64 (t402 + t407)) == t392) = true := beq_iff_eq.mpr c39
             have c39b1 : ((wrap64 (t402 + t407)) != t392) = false := bne_eq_false_iff_eq.mpr c39
             clear c39
             replace H := Option.bind_eq_some_iff.mp H
             obtain ⟨t408, A400, H⟩ := H
             have A40 := Aside0.mk A400
             clear A400
             obtain rfl := Option.some.inj H
             try go_wp2
             have n0_ := Aside0.mk (Kd.R_drew HO_6.out)
             have n1_ := Aside0.mk (Kd.R_drew HO_7.out)
             have n2_ := Aside0.mk (Kd.R_drew HO_392001.out)
             have n3_ := Aside0.mk (blk_drew BK391.out)
             have n4_ := Aside0.mk (below_drew1 HB.out)
             clear HO_6
             clear HO_7
             clear HO_392001
             clear BK391
             clear HB
             have HO_6 := n0_
             have HO_7 := n1_
             have HO_392001 := n2_
             have BK391 := n3_
             have HB := n4_
             clear n0_ n1_ n2_ n3_ n4_
             refine start_ (n := 39) (S := fun w' => w'.cell? ⟨gb391, 0, none⟩ = some (.int .i64 t381) ∧ w'.cell? ⟨gb391, 1, none⟩ = some (.slice Ao12 t382.length co12)) (ds := []) (ms 39 0) (by kernel_rfl) rfl (by kernel_rfl) ⟨(blk_cell BK391.out 0).trans rfl, (blk_cell BK391.out 1).trans rfl⟩ (fun hHeld => ?_); refine with_tabW laws_FnSomeShare.tab8 laws_FnSomeShare.bits8 (fun HT_ HW_ => ?_)
             generalize wc.drew = w41 at HO_6 HO_7 HO_392001 BK391 HB hHeld ⊢
             refine pure_ (i := 0) (N := some 50) (v := ?_) (a' := ?_) (ms 39 1) rfl rfl (any_of HT_.out (by kernel_rfl)) (fun _ _ _ h => h) (Or.inl ⟨by rfl, ?_⟩) ?_ ?_
             rotate_left
             ·intro w'
              go_simp
              with_reducible rfl
             rotate_left
             ·simp only [Act.put, sA, sB, sC, i64_w, i32_w]
              rfl
             refine pure_ (i := 2) (N := some 52) (v := ?_) (a' := ?_) (ms 39 5) rfl rfl (any_of HT_.out (by kernel_rfl)) (fun _ _ _ h => h) (Or.inl ⟨by rfl, ?_⟩) ?_ ?_
             rotate_left
             ·intro w'
              go_simp
              with_reducible rfl
             rotate_left
             ·simp only [Act.put, sA, sB, sC, i64_w, i32_w]
              rfl
             refine take_ (i := 1) (N := some 51) (v := ?_) (a' := ?_) (ms 39 7) rfl rfl (take_ofW HT_.out HW_.out (by kernel_rfl)) (fun _ _ _ h => h) (Or.inl ⟨by rfl, ?_⟩) hHeld ?_ ?_
             rotate_left
             ·rintro w' ⟨s0, s1⟩
              go_simp
              with_reducible rfl
             rotate_left
             ·simp only [Act.put, sA, sB, sC, i64_w, i32_w]
              rfl
             refine one_ (i := 3) (N := some 53) (ms 39 15) rfl rfl (one_of HT_.out (by kernel_rfl)) (by decide) (fun K hK => ?_)
             refine goes_ Try.func30 (by kernel_rfl) rfl #[.agg #[.int .i64 t381, .slice Ao12 t382.length co12], .slice Ao13 t385.length co13] (by rfl) rfl rfl (by (try simp only [List.map_toArray, List.map_cons, List.map_nil]); first | done | rfl | (simp only [List.length_drop, List.length_take]; rfl)) ?_
             with_reducible refine (impl_WalkCost.calls kj7 t381 _ _ t382 _ _ t385 t395 _ ?side1 ?side2 ?side3 ?side4 A27.out).mono ?_
             (case side1 => repeat (first | exact (Kd.R_reads' HO_392001.out).2.2 | (with_reducible refine Kd.C_alloc ?_ _) | (with_reducible refine Kd.C_drewN ?_ _) | (with_reducible refine Kd.C_drew ?_)))
             (case side2 => exact (Kd.R_reads' HO_392001.out).2.1)
             (case side3 => repeat (first | exact (Kd.R_reads' HO_6.out).2.2 | (with_reducible refine Kd.C_alloc ?_ _) | (with_reducible refine Kd.C_drewN ?_ _) | (with_reducible refine Kd.C_drew ?_)))
             (case side4 => exact (Kd.R_reads' HO_6.out).2.1)
             rintro e w42 ⟨rfl, hb⟩
             refine ⟨_, rfl, ?_⟩
             have n0_ := Aside0.mk (Kd.R_below (rk HO_6) hb)
             have n1_ := Aside0.mk (Kd.R_below (rk HO_7) hb)
             have n2_ := Aside0.mk (Kd.R_below (rk HO_392001) hb)
             have n3_ := Aside0.mk (blk_below (bk BK391) hb)
             have n4_ := Aside0.mk (below_step (bl1 HB GE391) hb)
             clear HO_6
             clear HO_7
             clear HO_392001
             clear BK391
             clear HB
             have HO_6 := n0_
             have HO_7 := n1_
             have HO_392001 := n2_
             have BK391 := n3_
             have HB := n4_
             clear n0_ n1_ n2_ n3_ n4_
             (try clear hb)
             (try clear hb2)
             (try clear hk)
             (try clear hi)
             refine hK.out _ _ ⟨(blk_cell BK391.out 0).trans rfl, (blk_cell BK391.out 1).trans rfl⟩ (fun hHeld => ?_)
             clear hK K
             refine norm_ (a' := ?_) ?_ ?_
             rotate_left
             ·show Act.put _ (some 53) _ = _
              simp only [Act.put, sA, sB, sC, i64_w, i32_w]
              rfl
             refine pure_ (i := 4) (N := some 54) (v := ?_) (a' := ?_) (ms 39 31) rfl rfl (any_of HT_.out (by kernel_rfl)) (fun _ _ _ h => h) (Or.inl ⟨by rfl, ?_⟩) ?_ ?_
             rotate_left
             ·intro w'
              go_simp
              with_reducible rfl
             rotate_left
             ·simp only [Act.put, sA, sB, sC, i64_w, i32_w]
              rfl
             refine pure_ (i := 5) (N := some 55) (v := ?_) (a' := ?_) (ms 39 63) rfl rfl (any_of HT_.out (by kernel_rfl)) (fun _ _ _ h => h) (Or.inl ⟨by rfl, ?_⟩) ?_ ?_
             rotate_left
             ·intro w'
              go_simp
              with_reducible rfl
             rotate_left
             ·simp only [Act.put, sA, sB, sC, i64_w, i32_w]
              rfl
             refine pure_ (i := 7) (N := some 57) (v := ?_) (a' := ?_) (ms 39 191) rfl rfl (any_of HT_.out (by kernel_rfl)) (fun _ _ _ h => h) (Or.inl ⟨by rfl, ?_⟩) ?_ ?_
             rotate_left
             ·intro w'
              go_simp
              with_reducible rfl
             rotate_left
             ·simp only [Act.put, sA, sB, sC, i64_w, i32_w]
              rfl
             refine pure_ (i := 8) (N := some 58) (v := ?_) (a' := ?_) (ms 39 447) rfl rfl (any_of HT_.out (by kernel_rfl)) (fun _ _ _ h => h) (Or.inl ⟨by rfl, ?_⟩) ?_ ?_
             rotate_left
             ·intro w'
              go_simp
              with_reducible rfl
             rotate_left
             ·simp only [Act.put, sA, sB, sC, i64_w, i32_w]
              rfl
             refine pure_ (i := 11) (N := some 61) (v := ?_) (a' := ?_) (ms 39 2495) rfl rfl (any_of HT_.out (by kernel_rfl)) (fun _ _ _ h => h) (Or.inl ⟨by rfl, ?_⟩) ?_ ?_
             rotate_left
             ·intro w'
              go_simp
              with_reducible rfl
             rotate_left
             ·simp only [Act.put, sA, sB, sC, i64_w, i32_w]
              rfl
             refine take_ (i := 6) (N := some 56) (v := ?_) (a' := ?_) (ms 39 2559) rfl rfl (take_ofW HT_.out HW_.out (by kernel_rfl)) (fun _ _ _ h => h) (Or.inl ⟨by rfl, ?_⟩) hHeld ?_ ?_
             rotate_left
             ·rintro w' ⟨s0, s1⟩
              go_simp
              with_reducible rfl
             rotate_left
             ·simp only [Act.put, sA, sB, sC, i64_w, i32_w]
              rfl
             refine take_ (i := 10) (N := some 60) (v := ?_) (a' := ?_) (ms 39 3583) rfl rfl (take_ofW HT_.out HW_.out (by kernel_rfl)) (fun _ _ _ h => h) (Or.inl ⟨by rfl, ?_⟩) hHeld ?_ ?_
             rotate_left
             ·rintro w' ⟨s0, s1⟩
              go_simp
              with_reducible rfl
             rotate_left
             ·simp only [Act.put, sA, sB, sC, i64_w, i32_w]
              rfl
             refine one_ (i := 9) (N := some 59) (ms 39 4095) rfl rfl (one_of HT_.out (by kernel_rfl)) (by decide) (fun K hK => ?_)
             refine goes_ Try.func27 (by kernel_rfl) rfl #[.agg #[.int .i64 t381, .slice Ao12 t382.length co12], .slice Ao13 t385.length co13, .slice Ao13 t385.length co13] (by rfl) rfl rfl (by (try simp only [List.map_toArray, List.map_cons, List.map_nil]); first | done | rfl | (simp only [List.length_drop, List.length_take]; rfl)) ?_
             with_reducible refine (impl_SomeShare.calls kj7 t381 _ _ t382 _ _ t385 _ _ t385 t396 _ ?side1 ?side2 ?side3 ?side4 ?side5 ?side6 A29.out).mono ?_
             (case side1 => repeat (first | exact (Kd.R_reads' HO_392001.out).2.2 | (with_reducible refine Kd.C_alloc ?_ _) | (with_reducible refine Kd.C_drewN ?_ _) | (with_reducible refine Kd.C_drew ?_)))
             (case side2 => exact (Kd.R_reads' HO_392001.out).2.1)
             (case side3 => repeat (first | exact (Kd.R_reads' HO_6.out).2.2 | (with_reducible refine Kd.C_alloc ?_ _) | (with_reducible refine Kd.C_drewN ?_ _) | (with_reducible refine Kd.C_drew ?_)))
             (case side4 => exact (Kd.R_reads' HO_6.out).2.1)
             (case side5 => repeat (first | exact (Kd.R_reads' HO_6.out).2.2 | (with_reducible refine Kd.C_alloc ?_ _) | (with_reducible refine Kd.C_drewN ?_ _) | (with_reducible refine Kd.C_drew ?_)))
             (case side6 => exact (Kd.R_reads' HO_6.out).2.1)
             rintro e w43 ⟨rfl, hb⟩
             refine ⟨_, rfl, ?_⟩
             have n0_ := Aside0.mk (Kd.R_below (rk HO_6) hb)
             have n1_ := Aside0.mk (Kd.R_below (rk HO_7) hb)
             have n2_ := Aside0.mk (Kd.R_below (rk HO_392001) hb)
             have n3_ := Aside0.mk (blk_below (bk BK391) hb)
             have n4_ := Aside0.mk (below_step (bl1 HB GE391) hb)
             clear HO_6
             clear HO_7
             clear HO_392001
             clear BK391
             clear HB
             have HO_6 := n0_
             have HO_7 := n1_
             have HO_392001 := n2_
             have BK391 := n3_
             have HB := n4_
             clear n0_ n1_ n2_ n3_ n4_
             (try clear hb)
             (try clear hb2)
             (try clear hk)
             (try clear hi)
             refine hK.out _ _ ⟨(blk_cell BK391.out 0).trans rfl, (blk_cell BK391.out 1).trans rfl⟩ (fun hHeld => ?_)
             clear hK K
             refine norm_ (a' := ?_) ?_ ?_
             rotate_left
             ·show Act.put _ (some 59) _ = _
              simp only [Act.put, sA, sB, sC, i64_w, i32_w]
              rfl
             refine one_ (i := 12) (N := some 62) (ms 39 8191) rfl rfl (one_of HT_.out (by kernel_rfl)) (by decide) (fun K hK => ?_)
             refine goes_ Try.func30 (by kernel_rfl) rfl #[.agg #[.int .i64 t381, .slice Ao12 t382.length co12], .slice Ao13 t385.length co13] (by rfl) rfl rfl (by (try simp only [List.map_toArray, List.map_cons, List.map_nil]); first | done | rfl | (simp only [List.length_drop, List.length_take]; rfl)) ?_
             with_reducible refine (impl_WalkCost.calls kj7 t381 _ _ t382 _ _ t385 t397 _ ?side1 ?side2 ?side3 ?side4 A30.out).mono ?_
             (case side1 => repeat (first | exact (Kd.R_reads' HO_392001.out).2.2 | (with_reducible refine Kd.C_alloc ?_ _) | (with_reducible refine Kd.C_drewN ?_ _) | (with_reducible refine Kd.C_drew ?_)))
             (case side2 => exact (Kd.R_reads' HO_392001.out).2.1)
             (case side3 => repeat (first | exact (Kd.R_reads' HO_6.out).2.2 | (with_reducible refine Kd.C_alloc ?_ _) | (with_reducible refine Kd.C_drewN ?_ _) | (with_reducible refine Kd.C_drew ?_)))
             (case side4 => exact (Kd.R_reads' HO_6.out).2.1)
             rintro e w44 ⟨rfl, hb⟩
             refine ⟨_, rfl, ?_⟩
             have n0_ := Aside0.mk (Kd.R_below (rk HO_6) hb)
             have n1_ := Aside0.mk (Kd.R_below (rk HO_7) hb)
             have n2_ := Aside0.mk (Kd.R_below (rk HO_392001) hb)
             have n3_ := Aside0.mk (blk_below (bk BK391) hb)
             have n4_ := Aside0.mk (below_step (bl1 HB GE391) hb)
             clear HO_6
             clear HO_7
             clear HO_392001
             clear BK391
             clear HB
             have HO_6 := n0_
             have HO_7 := n1_
             have HO_392001 := n2_
             have BK391 := n3_
             have HB := n4_
             clear n0_ n1_ n2_ n3_ n4_
             (try clear hb)
             (try clear hb2)
             (try clear hk)
             (try clear hi)
             have q45 : ((ji32) : Int) ≤ ((t385.length : Int) : Int) := oT (by first | (with_reducible assumption) | assumption)
             obtain ⟨i045, hi045, _, hsz45, _⟩ := info_parts info3
             have hroom45 : t385.length ≤ co13 := (Kd.R_reads' HO_6.out).2.1
             have hC45 : Kd.C (Kd.int .i64) _ Ao13 t385.length t385 := (Kd.R_reads' HO_6.out).2.2
             have hcut45 := cut_to (P := Try.prog) 41 3 .i64 Try.underlying41 hi045 Ao13 t385.length co13 (ji32) (oT (by first | (with_reducible assumption) | assumption)) q45 hroom45
             have hr45 := Kd.C_take (m := ((ji32) : Int).toNat) hC45 (by omega)
             have hy45 : y398.length = ((ji32) : Int).toNat := (by rw [Ny398.out, List.length_take]; omega)
             rw [← Ny398.out] at hr45
             rw [← hy45] at hcut45
             have HR401 := Aside0.mk hr45
             have HC401 := Aside0.mk (show y398.length ≤ co13 from by omega)
             clear hr45 hC45 hroom45 hi045 hsz45
             have KY45 := Aside0.mk hy45
             clear hy45
             have KL45 := Aside0.mk (show ((ji32) : Int).toNat ≤ t385.length from by omega)
             replace q45 := eq_true q45
             refine hK.out _ _ ⟨(blk_cell BK391.out 0).trans rfl, (blk_cell BK391.out 1).trans rfl⟩ (fun hHeld => ?_)
             clear hK K
             have q47 : ((ji32) : Int) ≤ ((t385.length : Int) : Int) := oT (by first | (with_reducible assumption) | assumption)
             obtain ⟨i047, hi047, _, hsz47, _⟩ := info_parts info3
             have hroom47 : t385.length ≤ co13 := (Kd.R_reads' HO_6.out).2.1
             have q047 : (0 : Int) ≤ ((ji32) : Int) := oT (by first | (with_reducible assumption) | assumption)
             have hcut47 := cut_from (P := Try.prog) 41 3 .i64 Try.underlying41 hi047 1 hsz47 Ao13 t385.length co13 (ji32) q047 q47
             obtain ⟨A47, hA47⟩ : ∃ A1, A1 = (if co13 = ((ji32) : Int).toNat then Ao13 else (Ao13 : Option Addr).map (·.add (((ji32) : Int).toNat * 1))) := ⟨_, rfl⟩
             obtain ⟨c47, hc47⟩ : ∃ c1, c1 = co13 - ((ji32) : Int).toNat := ⟨_, rfl⟩
             have hy47 : y403.length = t385.length - ((ji32) : Int).toNat := (by rw [Ny403.out, List.length_drop] <;> omega)
             rw [← hy47, ← hA47, ← hc47] at hcut47
             have HC406 := Aside0.mk (show y403.length ≤ c47 from by rw [hy47, hc47]; exact Nat.sub_le_sub_right hroom47 _)
             clear hroom47 hi047 hsz47 hc47
             have KY47 := Aside0.mk hy47
             have KA47 := Aside0.mk hA47
             clear hy47 hA47
             have KL47 := Aside0.mk (show ((ji32) : Int).toNat ≤ t385.length from by omega)
             replace q47 := eq_true q47
             refine norm_ (a' := ?_) ?_ ?_
             rotate_left
             ·show Act.put _ (some 62) _ = _
              simp only [Act.put, sA, sB, sC, i64_w, i32_w]
              rfl
             refine pure_ (i := 13) (N := some 63) (v := ?_) (a' := ?_) (ms 39 16383) rfl rfl (any_of HT_.out (by kernel_rfl)) (fun _ _ _ h => h) (Or.inl ⟨by rfl, ?_⟩) ?_ ?_
             rotate_left
             ·intro w'
              go_simp
              with_reducible rfl
             rotate_left
             ·simp only [Act.put, sA, sB, sC, i64_w, i32_w]
              rfl
             refine pure_ (i := 14) (N := some 64) (v := ?_) (a' := ?_) (ms 39 32767) rfl rfl (any_of HT_.out (by kernel_rfl)) (fun _ _ _ h => h) (Or.inl ⟨by rfl, ?_⟩) ?_ ?_
             rotate_left
             ·intro w'
              go_simp
              with_reducible rfl
             rotate_left
             ·simp only [Act.put, sA, sB, sC, i64_w, i32_w]
              rfl
             refine pure_ (i := 15) (N := some 65) (v := ?_) (a' := ?_) (ms 39 65535) rfl rfl (any_of HT_.out (by kernel_rfl)) (fun _ _ _ h => h) (Or.inl ⟨by rfl, ?_⟩) ?_ ?_
             rotate_left
             ·intro w'
              go_simp
              with_reducible rfl
             rotate_left
             ·simp only [Act.put, sA, sB, sC, i64_w, i32_w]
              rfl
             refine pure_ (i := 17) (N := some 67) (v := ?_) (a' := ?_) (ms 39 196607) rfl rfl (any_of HT_.out (by kernel_rfl)) (fun _ _ _ h => h) (Or.inl ⟨by rfl, ?_⟩) ?_ ?_
             rotate_left
             ·intro w'
              go_simp
              with_reducible rfl
             rotate_left
             ·simp only [Act.put, sA, sB, sC, i64_w, i32_w]
              rfl
             refine pure_ (i := 18) (N := some 68) (v := ?_) (a' := ?_) (ms 39 458751) rfl rfl (any_of HT_.out (by kernel_rfl)) (fun _ _ _ h => h) (Or.inl ⟨by rfl, ?_⟩) ?_ ?_
             rotate_left
             ·intro w'
              go_simp
              with_reducible rfl
             rotate_left
             ·simp only [Act.put, sA, sB, sC, i64_w, i32_w]
              rfl
             refine pure_ (i := 19) (N := some 69) (v := ?_) (a' := ?_) (ms 39 983039) rfl rfl (any_of HT_.out (by kernel_rfl)) (fun _ _ _ h => h) (Or.inl ⟨by rfl, ?_⟩) ?_ ?_
             rotate_left
             ·intro w'
              go_simp
              with_reducible rfl
             rotate_left
             ·simp only [Act.put, sA, sB, sC, i64_w, i32_w]
              rfl
             refine pure_ (i := 20) (N := some 70) (v := ?_) (a' := ?_) (ms 39 2031615) rfl rfl (any_of HT_.out (by kernel_rfl)) (fun _ _ _ h => h) (Or.inl ⟨by rfl, ?_⟩) ?_ ?_
             rotate_left
             ·intro w'
              go_simp
              with_reducible rfl
             rotate_left
             ·simp only [Act.put, sA, sB, sC, i64_w, i32_w]
              rfl
             refine pure_ (i := 23) (N := some 73) (v := ?_) (a' := ?_) (ms 39 10420223) rfl rfl (any_of HT_.out (by kernel_rfl)) (fun _ _ _ h => h) (Or.inl ⟨by rfl, ?_⟩) ?_ ?_
             rotate_left
             ·intro w'
              go_simp
              with_reducible rfl
             rotate_left
             ·simp only [Act.put, sA, sB, sC, i64_w, i32_w]
              rfl
             refine pure_ (i := 24) (N := some 74) (v := ?_) (a' := ?_) (ms 39 27197439) rfl rfl (any_of HT_.out (by kernel_rfl)) (fun _ _ _ h => h) (Or.inl ⟨by rfl, ?_⟩) ?_ ?_
             rotate_left
             ·intro w'
              go_simp
              with_reducible rfl
             rotate_left
             ·simp only [Act.put, sA, sB, sC, i64_w, i32_w]
              rfl
             refine pure_ (i := 25) (N := some 75) (v := ?_) (a' := ?_) (ms 39 60751871) rfl rfl (any_of HT_.out (by kernel_rfl)) (fun _ _ _ h => h) (Or.inl ⟨by rfl, ?_⟩) ?_ ?_
             rotate_left
             ·intro w'
              go_simp
              with_reducible rfl
             rotate_left
             ·simp only [Act.put, sA, sB, sC, i64_w, i32_w]
              rfl
             refine pure_ (i := 26) (N := some 76) (v := ?_) (a' := ?_) (ms 39 127860735) rfl rfl (any_of HT_.out (by kernel_rfl)) (fun _ _ _ h => h) (Or.inl ⟨by rfl, ?_⟩) ?_ ?_
             rotate_left
             ·intro w'
              go_simp
              with_reducible rfl
             rotate_left
             ·simp only [Act.put, sA, sB, sC, i64_w, i32_w]
              rfl
             refine pure_ (i := 29) (N := some 79) (v := ?_) (a' := ?_) (ms 39 664731647) rfl rfl (any_of HT_.out (by kernel_rfl)) (fun _ _ _ h => h) (Or.inl ⟨by rfl, ?_⟩) ?_ ?_
             rotate_left
             ·intro w'
              go_simp
              with_reducible rfl
             rotate_left
             ·simp only [Act.put, sA, sB, sC, i64_w, i32_w]
              rfl
             refine take_ (i := 16) (N := some 66) (v := ?_) (a' := ?_) (ms 39 664797183) rfl rfl (take_ofW HT_.out HW_.out (by kernel_rfl)) (fun _ _ _ h => h) (Or.inl ⟨by rfl, ?_⟩) hHeld ?_ ?_
             rotate_left
             ·rintro w' ⟨s0, s1⟩
              go_simp
              with_reducible rfl
             rotate_left
             ·simp only [Act.put, sA, sB, sC, i64_w, i32_w]
              rfl
             refine take_ (i := 22) (N := some 72) (v := ?_) (a' := ?_) (ms 39 668991487) rfl rfl (take_ofW HT_.out HW_.out (by kernel_rfl)) (fun _ _ _ h => h) (Or.inl ⟨by rfl, ?_⟩) hHeld ?_ ?_
             rotate_left
             ·rintro w' ⟨s0, s1⟩
              go_simp
              with_reducible rfl
             rotate_left
             ·simp only [Act.put, sA, sB, sC, i64_w, i32_w]
              rfl
             refine one_ (i := 21) (N := some 71) (ms 39 671088639) rfl rfl (one_of HT_.out (by kernel_rfl)) (by decide) (fun K hK => ?_)
             refine goes_ Try.func27 (by kernel_rfl) rfl #[.agg #[.int .i64 t381, .slice Ao12 t382.length co12], .slice Ao13 y398.length co13, .slice Ao14 t388.length co14] (by rfl) rfl rfl (by (try simp only [List.map_toArray, List.map_cons, List.map_nil]); first | done | rfl | (simp only [List.length_drop, List.length_take]; rfl)) ?_
             with_reducible refine (impl_SomeShare.calls kj7 t381 _ _ t382 _ _ y398 _ _ t388 t402 _ ?side1 ?side2 ?side3 ?side4 ?side5 ?side6 A35.out).mono ?_
             (case side1 => repeat (first | exact (Kd.R_reads' HO_392001.out).2.2 | (with_reducible refine Kd.C_alloc ?_ _) | (with_reducible refine Kd.C_drewN ?_ _) | (with_reducible refine Kd.C_drew ?_)))
             (case side2 => exact (Kd.R_reads' HO_392001.out).2.1)
             (case side3 => repeat (first | exact (by repeat (first | (with_reducible exact HR401.out) | (with_reducible refine Kd.C_alloc ?_ _) | (with_reducible refine Kd.C_drewN ?_ _) | (with_reducible refine Kd.C_drew ?_) | exact HR401.out)) | (with_reducible refine Kd.C_alloc ?_ _) | (with_reducible refine Kd.C_drewN ?_ _) | (with_reducible refine Kd.C_drew ?_)))
             (case side4 => exact HC401.out)
             (case side5 => repeat (first | exact (Kd.R_reads' HO_7.out).2.2 | (with_reducible refine Kd.C_alloc ?_ _) | (with_reducible refine Kd.C_drewN ?_ _) | (with_reducible refine Kd.C_drew ?_)))
             (case side6 => exact (Kd.R_reads' HO_7.out).2.1)
             rintro e w46 ⟨rfl, hb⟩
             refine ⟨_, rfl, ?_⟩
             have n0_ := Aside0.mk (Kd.R_below (rk HO_6) hb)
             have n1_ := Aside0.mk (Kd.R_below (rk HO_7) hb)
             have n2_ := Aside0.mk (Kd.R_below (rk HO_392001) hb)
             have n3_ := Aside0.mk (blk_below (bk BK391) hb)
             have n4_ := Aside0.mk (Kd.C_below (by repeat (first | (with_reducible exact HR401.out) | (with_reducible refine Kd.C_alloc ?_ _) | (with_reducible refine Kd.C_drewN ?_ _) | (with_reducible refine Kd.C_drew ?_) | exact HR401.out)) hb)
             have n5_ := Aside0.mk (below_step (bl1 HB GE391) hb)
             clear HO_6
             clear HO_7
             clear HO_392001
             clear BK391
             clear HR401
             clear HB
             have HO_6 := n0_
             have HO_7 := n1_
             have HO_392001 := n2_
             have BK391 := n3_
             have HR401 := n4_
             have HB := n5_
             clear n0_ n1_ n2_ n3_ n4_ n5_
             (try clear hb)
             (try clear hb2)
             (try clear hk)
             (try clear hi)
             have hroom47_ : t385.length ≤ co13 := (Kd.R_reads' HO_6.out).2.1
             have hC47 : Kd.C (Kd.int .i64) _ Ao13 t385.length t385 := (Kd.R_reads' HO_6.out).2.2
             have hr47 := Kd.C_drop (m := ((ji32) : Int).toNat) (c := co13) hC47 KL47.out hroom47_
             rw [show (t385).drop ((ji32) : Int).toNat = y403 from Ny403.out.symm] at hr47
             replace hr47 : Kd.C (Kd.int .i64) _ A47 y403.length y403 := (by rw [KA47.out]; exact hr47)
             have HR406 := Aside0.mk hr47
             clear hr47 hC47 hroom47_
             refine hK.out _ _ ⟨(blk_cell BK391.out 0).trans rfl, (blk_cell BK391.out 1).trans rfl⟩ (fun hHeld => ?_)
             clear hK K
             refine norm_ (a' := ?_) ?_ ?_
             rotate_left
             ·show Act.put _ (some 71) _ = _
              simp only [Act.put, sA, sB, sC, i64_w, i32_w]
              rfl
             refine one_ (i := 27) (N := some 77) (ms 39 805306367) rfl rfl (one_of HT_.out (by kernel_rfl)) (by decide) (fun K hK => ?_)
             refine goes_ Try.func27 (by kernel_rfl) rfl #[.agg #[.int .i64 t381, .slice Ao12 t382.length co12], .slice A47 y403.length c47, .slice Ao14 t388.length co14] (by rfl) rfl rfl (by (try simp only [List.map_toArray, List.map_cons, List.map_nil]); first | done | rfl | (simp only [List.length_drop, List.length_take]; rfl)) ?_
             with_reducible refine (impl_SomeShare.calls kj7 t381 _ _ t382 _ _ y403 _ _ t388 t407 _ ?side1 ?side2 ?side3 ?side4 ?side5 ?side6 A38.out).mono ?_
             (case side1 => repeat (first | exact (Kd.R_reads' HO_392001.out).2.2 | (with_reducible refine Kd.C_alloc ?_ _) | (with_reducible refine Kd.C_drewN ?_ _) | (with_reducible refine Kd.C_drew ?_)))
             (case side2 => exact (Kd.R_reads' HO_392001.out).2.1)
             (case side3 => repeat (first | exact (by repeat (first | (with_reducible exact HR406.out) | (with_reducible refine Kd.C_alloc ?_ _) | (with_reducible refine Kd.C_drewN ?_ _) | (with_reducible refine Kd.C_drew ?_) | exact HR406.out)) | (with_reducible refine Kd.C_alloc ?_ _) | (with_reducible refine Kd.C_drewN ?_ _) | (with_reducible refine Kd.C_drew ?_)))
             (case side4 => exact HC406.out)
             (case side5 => repeat (first | exact (Kd.R_reads' HO_7.out).2.2 | (with_reducible refine Kd.C_alloc ?_ _) | (with_reducible refine Kd.C_drewN ?_ _) | (with_reducible refine Kd.C_drew ?_)))
             (case side6 => exact (Kd.R_reads' HO_7.out).2.1)
             rintro e w48 ⟨rfl, hb⟩
             refine ⟨_, rfl, ?_⟩
             have n0_ := Aside0.mk (Kd.R_below (rk HO_6) hb)
             have n1_ := Aside0.mk (Kd.R_below (rk HO_7) hb)
             have n2_ := Aside0.mk (Kd.R_below (rk HO_392001) hb)
             have n3_ := Aside0.mk (blk_below (bk BK391) hb)
             have n4_ := Aside0.mk (Kd.C_below (by repeat (first | (with_reducible exact HR401.out) | (with_reducible refine Kd.C_alloc ?_ _) | (with_reducible refine Kd.C_drewN ?_ _) | (with_reducible refine Kd.C_drew ?_) | exact HR401.out)) hb)
             have n5_ := Aside0.mk (Kd.C_below (by repeat (first | (with_reducible exact HR406.out) | (with_reducible refine Kd.C_alloc ?_ _) | (with_reducible refine Kd.C_drewN ?_ _) | (with_reducible refine Kd.C_drew ?_) | exact HR406.out)) hb)
             have n6_ := Aside0.mk (below_step (bl1 HB GE391) hb)
             clear HO_6
             clear HO_7
             clear HO_392001
             clear BK391
             clear HR401
             clear HR406
             clear HB
             have HO_6 := n0_
             have HO_7 := n1_
             have HO_392001 := n2_
             have BK391 := n3_
             have HR401 := n4_
             have HR406 := n5_
             have HB := n6_
             clear n0_ n1_ n2_ n3_ n4_ n5_ n6_
             (try clear hb)
             (try clear hb2)
             (try clear hk)
             (try clear hi)
             refine hK.out _ _ ⟨(blk_cell BK391.out 0).trans rfl, (blk_cell BK391.out 1).trans rfl⟩ (fun hHeld => ?_)
             clear hK K
             refine norm_ (a' := ?_) ?_ ?_
             rotate_left
             ·show Act.put _ (some 77) _ = _
              simp only [Act.put, sA, sB, sC, i64_w, i32_w]
              rfl
             refine pure_ (i := 28) (N := some 78) (v := ?_) (a' := ?_) (ms 39 1073741823) rfl rfl (any_of HT_.out (by kernel_rfl)) (fun _ _ _ h => h) (Or.inl ⟨by rfl, ?_⟩) ?_ ?_
             rotate_left
             ·intro w'
              go_simp
              with_reducible rfl
             rotate_left
             ·simp only [Act.put, sA, sB, sC, i64_w, i32_w]
              rfl
             refine pure_ (i := 30) (N := some 80) (v := ?_) (a' := ?_) (ms 39 2147483647) rfl rfl (any_of HT_.out (by kernel_rfl)) (fun _ _ _ h => h) (Or.inl ⟨by rfl, ?_⟩) ?_ ?_
             rotate_left
             ·intro w'
              go_simp
              with_reducible rfl
             rotate_left
             ·simp only [Act.put, sA, sB, sC, i64_w, i32_w]
              rfl
             refine pure_ (i := 31) (N := some 81) (v := ?_) (a' := ?_) (ms 39 4294967295) rfl rfl (any_of HT_.out (by kernel_rfl)) (fun _ _ _ h => h) (Or.inl ⟨by rfl, ?_⟩) ?_ ?_
             rotate_left
             ·intro w'
              go_simp
              with_reducible rfl
             rotate_left
             ·simp only [Act.put, sA, sB, sC, i64_w, i32_w]
              rfl
             refine pure_ (i := 32) (N := some 82) (v := ?_) (a' := ?_) (ms 39 8589934591) rfl rfl (any_of HT_.out (by kernel_rfl)) (fun _ _ _ h => h) (Or.inl ⟨by rfl, ?_⟩) ?_ ?_
             rotate_left
             ·intro w'
              go_simp
              with_reducible rfl
             rotate_left
             ·simp only [Act.put, sA, sB, sC, i64_w, i32_w]
              rfl
             refine pure_ (i := 34) (N := some 84) (v := ?_) (a' := ?_) (ms 39 25769803775) rfl rfl (any_of HT_.out (by kernel_rfl)) (fun _ _ _ h => h) (Or.inl ⟨by rfl, ?_⟩) ?_ ?_
             rotate_left
             ·intro w'
              go_simp
              with_reducible rfl
             rotate_left
             ·simp only [Act.put, sA, sB, sC, i64_w, i32_w]
              rfl
             refine take_ (i := 33) (N := some 83) (v := ?_) (a' := ?_) (ms 39 34359738367) rfl rfl (take_ofW HT_.out HW_.out (by kernel_rfl)) (fun _ _ _ h => h) (Or.inl ⟨by rfl, ?_⟩) hHeld ?_ ?_
             rotate_left
             ·rintro w' ⟨s0, s1⟩
              go_simp
              with_reducible rfl
             rotate_left
             ·simp only [Act.put, sA, sB, sC, i64_w, i32_w]
              rfl
             refine one_ (i := 35) (N := some 85) (ms 39 68719476735) rfl rfl (one_of HT_.out (by kernel_rfl)) (by decide) (fun K hK => ?_)
             refine goes_ Try.func27 (by kernel_rfl) rfl #[.agg #[.int .i64 t381, .slice Ao12 t382.length co12], .slice Ao13 t385.length co13, .slice none 0 0] (by rfl) rfl rfl (by (try simp only [List.map_toArray, List.map_cons, List.map_nil]); first | done | rfl | (simp only [List.length_drop, List.length_take]; rfl)) ?_
             refine (impl_SomeShare.calls kj7 t381 _ _ t382 _ _ t385 _ _ ([] : List Int) t408 _ ?side1 ?side2 ?side3 ?side4 ?side5 ?side6 A40.out).mono ?_
             (case side1 => repeat (first | exact (Kd.R_reads' HO_392001.out).2.2 | (with_reducible refine Kd.C_alloc ?_ _) | (with_reducible refine Kd.C_drewN ?_ _) | (with_reducible refine Kd.C_drew ?_)))
             (case side2 => exact (Kd.R_reads' HO_392001.out).2.1)
             (case side3 => repeat (first | exact (Kd.R_reads' HO_6.out).2.2 | (with_reducible refine Kd.C_alloc ?_ _) | (with_reducible refine Kd.C_drewN ?_ _) | (with_reducible refine Kd.C_drew ?_)))
             (case side4 => exact (Kd.R_reads' HO_6.out).2.1)
             (case side5 => exact Kd.C_nil _ _)
             (case side6 => exact Nat.le_refl _)
             rintro e w49 ⟨rfl, hb⟩
             refine ⟨_, rfl, ?_⟩
             have n0_ := Aside0.mk (Kd.R_below (rk HO_6) hb)
             have n1_ := Aside0.mk (Kd.R_below (rk HO_7) hb)
             have n2_ := Aside0.mk (Kd.R_below (rk HO_392001) hb)
             have n3_ := Aside0.mk (blk_below (bk BK391) hb)
             have n4_ := Aside0.mk (Kd.C_below (by repeat (first | (with_reducible exact HR401.out) | (with_reducible refine Kd.C_alloc ?_ _) | (with_reducible refine Kd.C_drewN ?_ _) | (with_reducible refine Kd.C_drew ?_) | exact HR401.out)) hb)
             have n5_ := Aside0.mk (Kd.C_below (by repeat (first | (with_reducible exact HR406.out) | (with_reducible refine Kd.C_alloc ?_ _) | (with_reducible refine Kd.C_drewN ?_ _) | (with_reducible refine Kd.C_drew ?_) | exact HR406.out)) hb)
             have n6_ := Aside0.mk (below_step (bl1 HB GE391) hb)
             clear HO_6
             clear HO_7
             clear HO_392001
             clear BK391
             clear HR401
             clear HR406
             clear HB
             have HO_6 := n0_
             have HO_7 := n1_
             have HO_392001 := n2_
             have BK391 := n3_
             have HR401 := n4_
             have HR406 := n5_
             have HB := n6_
             clear n0_ n1_ n2_ n3_ n4_ n5_ n6_
             (try clear hb)
             (try clear hb2)
             (try clear hk)
             (try clear hi)
             refine hK.out _ _ ⟨(blk_cell BK391.out 0).trans rfl, (blk_cell BK391.out 1).trans rfl⟩ (fun hHeld => ?_)
             clear hK K
             refine norm_ (a' := ?_) ?_ ?_
             rotate_left
             ·show Act.put _ (some 85) _ = _
              simp only [Act.put, sA, sB, sC, i64_w, i32_w]
              rfl
             refine pure_ (i := 36) (N := some 86) (v := ?_) (a' := ?_) (ms 39 137438953471) rfl rfl (any_of HT_.out (by kernel_rfl)) (fun _ _ _ h => h) (Or.inl ⟨by rfl, ?_⟩) ?_ ?_
             rotate_left
             ·intro w'
              go_simp
              with_reducible rfl
             rotate_left
             ·simp only [Act.put, sA, sB, sC, i64_w, i32_w]
              rfl
             refine pure_ (i := 37) (N := some 87) (v := ?_) (a' := ?_) (ms 39 274877906943) rfl rfl (any_of HT_.out (by kernel_rfl)) (fun _ _ _ h => h) (Or.inl ⟨by rfl, ?_⟩) ?_ ?_
             rotate_left
             ·intro w'
              go_simp
              with_reducible rfl
             rotate_left
             ·simp only [Act.put, sA, sB, sC, i64_w, i32_w]
              rfl
             refine pure_ (i := 38) (N := some 4) (v := ?_) (a' := ?_) (ms 39 549755813887) rfl rfl (any_of HT_.out (by kernel_rfl)) (fun _ _ _ h => h) (Or.inl ⟨by rfl, ?_⟩) ?_ ?_
             rotate_left
             ·intro w'
              go_simp
              with_reducible rfl
             rotate_left
             ·simp only [Act.put, sA, sB, sC, i64_w, i32_w]
              rfl
             refine done_ (done_of HT_.out (by kernel_rfl)) ?_
             try go_wp2
             go_ret
             exact ⟨by first | rfl | (simp [errW_none, errW_some] <;> rfl) | (simp only [← hji32]; first | rfl | (simp [errW_none, errW_some] <;> rfl)) | (simp [*, errW_none, errW_some] <;> rfl), bl1 HB GE391⟩
            ·rw [if_neg c39] at H
             have c39b0 : ((wrap64 (t402 + t407)) == t392) = false := beq_eq_false_iff_ne.mpr c39
             have c39b1 : ((wrap64 (t402 + t407)) != t392) = true := bne_iff_ne.mpr c39
             exact absurd ((Option.some.inj H).trans hr_) Bool.false_ne_true
           ·rw [if_neg c34] at H
            exact absurd H (by simp)
          ·rw [if_neg c33] at H
           exact absurd H (by simp)
         ·rw [if_neg c31] at H
          have c31b0 : (t396 == t397) = false := beq_eq_false_iff_ne.mpr c31
          have c31b1 : (t396 != t397) = true := bne_iff_ne.mpr c31
          exact absurd ((Option.some.inj H).trans hr_) Bool.false_ne_true
        ·rw [if_neg c28] at H
         have c28b0 : decide (t392 ≤ t395) = false := decide_eq_false c28
         clear c28
         exact absurd ((Option.some.inj H).trans hr_) Bool.false_ne_true

/-- THE ONE PURE STATEMENT of laws_FnSomeShare: yours. -/
def laws_FnSomeShare.Pure : Prop := ∀ (l0 : List Int) (l1 : List Int), l0.length ≤ maxLen → l0.length * 1 ≤ 140737488351232 → (∀ x ∈ l0, (Lit.int .u8 x).wf = true) → l1.length ≤ maxLen → l1.length * 1 ≤ 140737488351232 → (∀ x ∈ l1, (Lit.int .u8 x).wf = true) → ∃ k, laws_FnSomeShare.f k l0 l1 = some true
theorem laws_FnSomeShare.walk (P : laws_FnSomeShare.Pure) (a0 : Option Addr) (len0 cap0 : Nat) (z0 : List Int) (a1 : Option Addr) (len1 cap1 : Nat) (z1 : List Int) (w : World) (w0 : (a0 = none ∧ len0 = 0 ∧ cap0 = 0 ∧ z0 = []) ∨ ∃ x, a0 = some x ∧ len0 ≤ cap0 ∧ cap0 ≤ maxLen ∧ z0.length = cap0 ∧ (∀ i, i < z0.length → w.cell? (x.add i) = some (.int .u8 (z0.getD i 0))) ∧ ∀ n ∈ z0, (Lit.int .u8 n).wf = true) (y0 : len0 * 1 ≤ 140737488351232) (w1 : (a1 = none ∧ len1 = 0 ∧ cap1 = 0 ∧ z1 = []) ∨ ∃ x, a1 = some x ∧ len1 ≤ cap1 ∧ cap1 ≤ maxLen ∧ z1.length = cap1 ∧ (∀ i, i < z1.length → w.cell? (x.add i) = some (.int .u8 (z1.getD i 0))) ∧ ∀ n ∈ z1, (Lit.int .u8 n).wf = true) (y1 : len1 * 1 ≤ 140737488351232) :
  Calls Try.prog 6 #[.slice a0 len0 cap0, .slice a1 len1 cap1] w fun e w' => e = .returned (.bool true) ∧ Below w.heap.size w w' := by
 obtain ⟨l0, rfl, hr0, hm0, hw0, hc0⟩ := ReadsInt.ofRowC w0
 obtain ⟨l1, rfl, hr1, hm1, hw1, hc1⟩ := ReadsInt.ofRowC w1
 obtain ⟨k, h⟩ := P l0 l1 hm0 y0 hw0 hm1 y1 hw1
 refine (laws_FnSomeShare.calls k _ _ l0 _ _ l1 true w (Kd.C_of_reads (d := (0 : Int)) (h1 := fun _ => rfl) hr0) hc0 (Kd.C_of_reads (d := (0 : Int)) (h1 := fun _ => rfl) hr1) hc1 h rfl).mono ?_
 rintro e w' ⟨rfl, hd⟩
 exact ⟨rfl, hd⟩

end Go.Proofs.Ythgihpbpebbebaa.F
