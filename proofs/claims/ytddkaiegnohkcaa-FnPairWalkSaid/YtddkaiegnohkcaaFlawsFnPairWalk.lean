-- Printed by wip/px/px.py of this claim's repository (the kit's printer, extended there). Lean checks it.
import Derived.Test.YtddkaiegnohkcaaFKinds
import Derived.Test.YtddkaiegnohkcaaFimplPairAll
import Derived.Test.YtddkaiegnohkcaaFspecDrawWalkOk
import Derived.Test.YtddkaiegnohkcaaFimplWalkOk
import Derived.Test.YtddkaiegnohkcaaFspecWalkOk
import Derived.Test.YtddkaiegnohkcaaFimplWalkCost
import Derived.Test.YtddkaiegnohkcaaFlawswkToll
namespace Go.Proofs.Ytddkaiegnohkcaa.F
open Go.RowKit Go.Proofs.YtddkaiegnohkcaaW.PrintWords Go.Proofs.YtddkaiegnohkcaaW.PrintLast Go.Proofs.YtddkaiegnohkcaaW.PrintMore
attribute [local go_sem] max2_int min2_int max_two min_two max_three min_three max_four min_four   -- for this text's walks alone
set_option linter.unusedVariables false
set_option linter.unusedSimpArgs false

/-! ### laws_FnPairWalk: function 3 -/
mutual
def laws_FnPairWalk.j0 : Nat → List Int → Bool → Int → List (S33) → Option (Bool)
 | 0, _, _, _, _ => none
 | k + 1, x4, x32, x534000, x534001 => if x32 = true then ((impl_WalkOk.f k x534000 x534001 x4).bind fun t537 => ((spec_WalkOk.f k x534000 x534001 x4).bind fun t538 => (some (t537 == t538)))) else (if 0 < (x4.length : Int) then (if 0 ≤ (rd x4 0) then (if (rd x4 0) < (x534001.length : Int) then (if 0 ≤ (wrap64 ((x4.length : Int) - 1)) then (if (wrap64 ((x4.length : Int) - 1)) < (x4.length : Int) then (if 0 ≤ (rd x4 (wrap64 ((x4.length : Int) - 1))) then (if (rd x4 (wrap64 ((x4.length : Int) - 1))) < (x534001.length : Int) then ((impl_PairAll.f k x534000 x534001 ((rd_T33 x534001 (rd x4 0)).f0) ((rd_T33 x534001 (rd x4 (wrap64 ((x4.length : Int) - 1)))).f1)).bind fun t543 => (laws_FnPairWalk.l0 k x4 t543 0 x534000 x534001)) else (none)) else (none)) else (none)) else (none)) else (none)) else (none)) else (none))
def laws_FnPairWalk.l0 : Nat → List Int → List (S35) → Int → Int → List (S33) → Option (Bool)
 | 0, _, _, _, _, _ => none
 | k + 1, x4, x5, x6, x534000, x534001 => if x6 < (x5.length : Int) then (if 0 ≤ x6 then ((impl_WalkCost.f k x534000 x534001 x4).bind fun t547 => (if ((rd_T35 x5 x6).f0) ≤ t547 then ((laws_wkToll.f k x534000 x534001 x4).bind fun t549 => (if ((rd_T35 x5 x6).f1) ≤ t549 then (some true) else (laws_FnPairWalk.l0 k x4 x5 (wrap64 (x6 + 1)) x534000 x534001))) else (laws_FnPairWalk.l0 k x4 x5 (wrap64 (x6 + 1)) x534000 x534001))) else (none)) else (some false)
end
def laws_FnPairWalk.f (k : Nat) (l0 : List Int) : Option (Bool) := if (l0.length : Int) > 1048576 then (some true) else ((spec_DrawWalkOk.f k l0).bind fun bt526 => ((impl_WalkOk.f k bt526.1 bt526.2.1 bt526.2.2).bind fun t534 => ((spec_WalkOk.f k bt526.1 bt526.2.1 bt526.2.2).bind fun t535 => (if (t534 != t535) = true then (laws_FnPairWalk.j0 k bt526.2.2 true bt526.1 bt526.2.1) else ((impl_WalkOk.f k bt526.1 bt526.2.1 bt526.2.2).bind fun t536 => (if t536 = true then (laws_FnPairWalk.j0 k bt526.2.2 ((bt526.2.2.length : Int) == 0) bt526.1 bt526.2.1) else (laws_FnPairWalk.j0 k bt526.2.2 true bt526.1 bt526.2.1)))))))
theorem laws_FnPairWalk.mono_l : ∀ k, (∀ y0 y1 y2 y3, LeO (laws_FnPairWalk.j0 k y0 y1 y2 y3) (laws_FnPairWalk.j0 (k + 1) y0 y1 y2 y3)) ∧ (∀ y0 y1 y2 y3 y4, LeO (laws_FnPairWalk.l0 k y0 y1 y2 y3 y4) (laws_FnPairWalk.l0 (k + 1) y0 y1 y2 y3 y4))
 | 0 => ⟨fun _ _ _ _ r h => by simp [laws_FnPairWalk.j0] at h, fun _ _ _ _ _ r h => by simp [laws_FnPairWalk.l0] at h⟩
 | k + 1 => by
  obtain ⟨ih0, ih1⟩ := laws_FnPairWalk.mono_l k
  refine ⟨?_, ?_⟩
  ·intro y0 y1 y2 y3
   unfold laws_FnPairWalk.j0
   repeat' first | (with_reducible exact ih1 _ _ _ _ _) | (with_reducible exact impl_PairAll.mono _ _ _ _ _) | (with_reducible exact impl_WalkOk.mono _ _ _ _) | (with_reducible exact spec_WalkOk.mono _ _ _ _) | (with_reducible exact LeO.refl _) | (with_reducible refine LeO.ite ?_ ?_) | (with_reducible refine LeO.bind ?_ (fun _ => ?_))
  ·intro y0 y1 y2 y3 y4
   unfold laws_FnPairWalk.l0
   repeat' first | (with_reducible exact ih1 _ _ _ _ _) | (with_reducible exact impl_WalkCost.mono _ _ _ _) | (with_reducible exact laws_wkToll.mono _ _ _ _) | (with_reducible exact LeO.refl _) | (with_reducible refine LeO.ite ?_ ?_) | (with_reducible refine LeO.bind ?_ (fun _ => ?_))
theorem laws_FnPairWalk.mono : ∀ a0 k, LeO (laws_FnPairWalk.f k a0) (laws_FnPairWalk.f (k + 1) a0) := by
 intro a0 k
 obtain ⟨ih0, ih1⟩ := laws_FnPairWalk.mono_l k
 unfold laws_FnPairWalk.f
 repeat' first | (with_reducible exact ih0 _ _ _ _) | (with_reducible exact impl_WalkOk.mono _ _ _ _) | (with_reducible exact spec_DrawWalkOk.mono _ _) | (with_reducible exact spec_WalkOk.mono _ _ _ _) | (with_reducible exact LeO.refl _) | (with_reducible refine LeO.ite ?_ ?_) | (with_reducible refine LeO.bind ?_ (fun _ => ?_))
def laws_FnPairWalk.T4 : Bool × List (List Nat × List Nat) := (true, [([], []), ([], []), ([0, 1], [0, 1]), ([], []), ([], []), ([3, 4, 2], [3, 4]), ([2, 5], [2, 5]), ([6, 5], [6]), ([7], [7]), ([7], [7]), ([8, 9, 7, 7], [7, 8, 9]), ([10, 7], [7, 10]), ([7, 11], [7, 11]), ([12, 10], [12]), ([13], [13]), ([14, 13], [13, 14]), ([15, 13], [13, 15]), ([13, 16], [13, 16])])
def laws_FnPairWalk.B4 : List Nat := [0, 0, 3, 0, 0, 31, 63, 127, 255, 255, 1023, 2047, 4095, 8191, 16383, 32767, 65535, 131071]
theorem laws_FnPairWalk.tab4 : rtab .any (opsOf Try.f3 4) = laws_FnPairWalk.T4 := by kernel_rfl
theorem laws_FnPairWalk.bits4 : waitsOk laws_FnPairWalk.T4.2 laws_FnPairWalk.B4 = true := by kernel_rfl
def laws_FnPairWalk.T5 : Bool × List (List Nat × List Nat) := (true, [([], []), ([], []), ([0, 1], [0, 1]), ([], []), ([], []), ([3, 4, 2], [3, 4]), ([2, 5], [2, 5]), ([6, 5, 0, 1, 2, 3, 4, 5, 6], [6])])
def laws_FnPairWalk.B5 : List Nat := [0, 0, 3, 0, 0, 31, 63, 127]
theorem laws_FnPairWalk.tab5 : rtab .any (opsOf Try.f3 5) = laws_FnPairWalk.T5 := by kernel_rfl
theorem laws_FnPairWalk.bits5 : waitsOk laws_FnPairWalk.T5.2 laws_FnPairWalk.B5 = true := by kernel_rfl
def laws_FnPairWalk.T6 : Bool × List (List Nat × List Nat) := (true, [([], []), ([], []), ([1], [1]), ([], []), ([3], [3]), ([4], [4]), ([2, 5], [2, 5]), ([6], [6]), ([7], [7]), ([], []), ([9], [9]), ([], []), ([], []), ([12], [12]), ([13], [13]), ([11, 14], [11, 14]), ([15], [15]), ([10, 16], [10, 16]), ([17], [17]), ([18], [18]), ([0, 8, 19], [0, 8, 19]), ([20, 20, 0, 1, 2, 3, 4, 5, 6, 7, 8, 9, 10, 11, 12, 13, 14, 15, 16, 17, 18, 19, 20], [20])])
def laws_FnPairWalk.B6 : List Nat := [0, 0, 2, 0, 8, 24, 62, 126, 254, 0, 512, 0, 0, 4096, 12288, 30720, 63488, 130560, 261632, 523776, 1048575, 2097151]
theorem laws_FnPairWalk.tab6 : rtab .any (opsOf Try.f3 6) = laws_FnPairWalk.T6 := by kernel_rfl
theorem laws_FnPairWalk.bits6 : waitsOk laws_FnPairWalk.T6.2 laws_FnPairWalk.B6 = true := by kernel_rfl
def laws_FnPairWalk.T10 : Bool × List (List Nat × List Nat) := (true, [([], []), ([], []), ([0, 1], [0, 1]), ([2], [2]), ([3], [3]), ([], []), ([], []), ([5, 6], [5, 6]), ([4, 7], [4, 7]), ([8, 7], [8]), ([9], [9]), ([9], [9]), ([10, 11, 9], [9, 10, 11]), ([12, 9], [9, 12]), ([13, 9], [9, 13]), ([9], [9]), ([9], [9]), ([15, 16, 9, 9], [9, 15, 16]), ([14, 17, 9], [9, 14, 17]), ([9, 18], [9, 18])])
def laws_FnPairWalk.B10 : List Nat := [0, 0, 3, 7, 15, 0, 0, 96, 255, 511, 1023, 1023, 4095, 8191, 16383, 1023, 1023, 99327, 262143, 524287]
theorem laws_FnPairWalk.tab10 : rtab .any (opsOf Try.f3 10) = laws_FnPairWalk.T10 := by kernel_rfl
theorem laws_FnPairWalk.bits10 : waitsOk laws_FnPairWalk.T10.2 laws_FnPairWalk.B10 = true := by kernel_rfl
set_option maxHeartbeats 8000000 in
set_option maxRecDepth 100000 in
theorem laws_FnPairWalk.calls (k : Nat) (A0 : Option Addr) (c0 : Nat) (l0 : List Int) (r : Bool) (w : World) (hr0 : Kd.C (Kd.int .u8) w A0 l0.length l0) (hc0 : l0.length ≤ c0) (h : laws_FnPairWalk.f k l0 = some r) (hr_ : r = true) :
  Calls Try.prog 3 #[.slice A0 l0.length c0] w fun e w' => e = .returned (.bool r) ∧ Below w.heap.size w w' := by
 have hu25 := Try.underlying25
 have HR0 := ak hr0
 have HC0 := ak hc0
 clear hr0 hc0
 have HB := ak (Below.refl w.heap.size w)
 have H : (if (l0.length : Int) > 1048576 then (some true) else ((spec_DrawWalkOk.f k l0).bind fun bt526 => ((impl_WalkOk.f k bt526.1 bt526.2.1 bt526.2.2).bind fun t534 => ((spec_WalkOk.f k bt526.1 bt526.2.1 bt526.2.2).bind fun t535 => (if (t534 != t535) = true then (laws_FnPairWalk.j0 k bt526.2.2 true bt526.1 bt526.2.1) else ((impl_WalkOk.f k bt526.1 bt526.2.1 bt526.2.2).bind fun t536 => (if t536 = true then (laws_FnPairWalk.j0 k bt526.2.2 ((bt526.2.2.length : Int) == 0) bt526.1 bt526.2.1) else (laws_FnPairWalk.j0 k bt526.2.2 true bt526.1 bt526.2.1)))))))) = some r := h
 clear h
 by_cases c2 : (l0.length : Int) > 1048576
 ·rw [if_pos c2] at H
  have c2b0 : decide (1048576 < (l0.length : Int)) = true := decide_eq_true c2
  have c2b1 : decide (1048576 < l0.length) = true := decide_eq_true (by omega)
  clear c2
  obtain rfl := Option.some.inj H
  go_enter Try.func3, Try.ntmps3
  go_wp2
  go_ret
  exact ⟨by rfl, bl HB⟩
 rw [if_neg c2] at H
 have c2b0 : decide (1048576 < (l0.length : Int)) = false := decide_eq_false c2
 have c2b1 : decide (1048576 < l0.length) = false := decide_eq_false (by omega)
 clear c2
 replace H := Option.bind_eq_some_iff.mp H
 obtain ⟨⟨t526, t527, t530⟩, A30, H⟩ := H
 have A3 := ak A30
 clear A30
 have HC4 := ak H
 clear H
 go_enter Try.func3, Try.ntmps3
 go_upto_region 4 with (first | ((with_reducible refine gate_callee (f := 11) rfl ?_); refine goesL_ (some 12) rfl rfl Try.func11 (by kernel_rfl) rfl #[.slice A0 l0.length c0] rfl (by (try simp only [List.map_toArray, List.map_cons, List.map_nil]); rfl) ?_; (with_reducible refine (spec_DrawWalkOk.calls k _ _ l0 t526 t527 t530 _ ?side1 ?side2 A3.out).mono ?_); (case side1 => repeat (exact HR0.out)); (case side2 => exact HC0.out); rintro e w5 ⟨v528, v531, rfl, ho0, ho1, hb⟩; refine ⟨_, rfl, ?_⟩; have HO529 := ak (Kd.R_lower ho0 (below_size (bl HB))); have HO532 := ak (Kd.R_lower ho1 (below_size (bl HB))); replace HB := ak (below_step (bl HB) hb); (try clear hb); (try clear hb2); (try clear hk); (try clear hi); (try clear ho0); (try clear ho1)) | ((with_reducible refine gate_dst (N := 3) rfl ?_); refine box_event ?hg (N := 3) ?hd (cs := #[.int .i64 0, .slice none 0 0]) (t := 25) ?hr ?_; (case hd => rfl); (case hg => rfl); (case hr => (go_simp; done)); intro gb533 hg w6 hbox hb; replace HO529 := ak (Kd.R_below (rk HO529) hb); replace HO532 := ak (Kd.R_below (rk HO532) hb); have BK533 := ak (hbox); have GW533 := ak ((by rw [hg]; exact (below_size (bl HB)) : w.heap.size ≤ gb533)); have GE533 := ak ((by rw [hg]; exact (below_size (bl HB)) : w.heap.size ≤ gb533)); replace HB := ak (below_step (bl HB) hb); clear hb hbox hg; have hcz7_0 := bc w6 BK533 0 (.int .i64 0) rfl; have hcz7_1 := bc w6 BK533 1 (.slice none 0 0) rfl; have hfz7_0 := fz BK533 0; have hfz7_1 := fz BK533 1; obtain ⟨Ao8, co8, eo8⟩ := Kd.R_slice HO529.out; subst eo8))
 (try simp only [Act.put, List.setIfInBounds_toArray, List.set_cons_zero, List.set_cons_succ])
 go_cut [32] (fun v32 wc => ∃ (kq : Nat) (x32_3 : Bool), v32 = .bool x32_3 ∧ Aside0 (laws_FnPairWalk.j0 kq t530 x32_3 t526 t527 = some r) ∧ Aside0 (kq ≤ k) ∧ Aside0 (Kd.R (Kd.int .i64) 3 wc w.heap.size (fun _ => True) v531 t530) ∧ Aside0 (Kd.R k33 33 wc w.heap.size (fun _ => True) (.slice Ao8 t527.length co8) t527) ∧ Aside0 (wc.heap[gb533]? = some (.cells #[.int .i64 t526, (.slice Ao8 t527.length co8)] 25 (0, 0))) ∧ Aside0 (Below w.heap.size w wc))
 case first =>
  have H := HC4.out
  clear HC4
  replace H := Option.bind_eq_some_iff.mp H
  obtain ⟨t534, A90, H⟩ := H
  have A9 := ak A90
  clear A90
  replace H := Option.bind_eq_some_iff.mp H
  obtain ⟨t535, A100, H⟩ := H
  have A10 := ak A100
  clear A100
  by_cases c11 : (t534 != t535) = true
  ·rw [if_pos c11] at H
   have c11b0 : (t534 != t535) = true := c11
   (try (have c11b1 : decide (t534 = t535) = false := by simpa using c11))
   (try (have c11b2 : (t534 == t535) = false := by simpa using c11))
   (try (have c11b3 : ¬ (t534 = t535) := by simpa using c11))
   clear c11
   (skip)
   have H' := ak H
   clear H
   try go_wp2
   have n0_ : Aside0 (Kd.R k33 33 ((w6.setCell ⟨gb533, 0, none⟩ (.int .i64 t526)).setCell ⟨gb533, 1, none⟩ (.slice Ao8 t527.length co8)) w.heap.size (fun _ => True) (.slice Ao8 t527.length co8) t527) := ⟨by exact Kd.R_mono (Kd.R_far (p := ⟨gb533, 1, none⟩) (Kd.R_far (p := ⟨gb533, 0, none⟩) (Kd.R_types HO529.out BK533.out (by decide)) (fun _ hk => hk.2) (.int .i64 t526)) (fun _ hk => hk.2) (.slice Ao8 t527.length co8)) (fun _ hk => trivial)⟩
   have n1_ : Aside0 (Kd.R (Kd.int .i64) 3 ((w6.setCell ⟨gb533, 0, none⟩ (.int .i64 t526)).setCell ⟨gb533, 1, none⟩ (.slice Ao8 t527.length co8)) w.heap.size (fun _ => True) v531 t530) := ⟨by exact Kd.R_mono (Kd.R_far (p := ⟨gb533, 1, none⟩) (Kd.R_far (p := ⟨gb533, 0, none⟩) (Kd.R_types HO532.out BK533.out (by decide)) (fun _ hk => hk.2) (.int .i64 t526)) (fun _ hk => hk.2) (.slice Ao8 t527.length co8)) (fun _ hk => trivial)⟩
   have n2_ : Aside0 (((w6.setCell ⟨gb533, 0, none⟩ (.int .i64 t526)).setCell ⟨gb533, 1, none⟩ (.slice Ao8 t527.length co8)).heap[gb533]? = some (.cells #[.int .i64 t526, .slice Ao8 t527.length co8] 25 (0, 0))) := ⟨by refine blk_put (cs := #[.int .i64 t526, .slice none 0 0]) ?_ 1 _ rfl; refine blk_put (cs := #[.int .i64 0, .slice none 0 0]) ?_ 0 _ rfl; exact BK533.out⟩
   have n3_ : Aside0 (Below w.heap.size w ((w6.setCell ⟨gb533, 0, none⟩ (.int .i64 t526)).setCell ⟨gb533, 1, none⟩ (.slice Ao8 t527.length co8))) := ⟨bl1 HB GE533⟩
   (try clear HO529)
   (try clear HO532)
   (try clear BK533)
   (try clear HB)
   generalize ((w6.setCell ⟨gb533, 0, none⟩ (.int .i64 t526)).setCell ⟨gb533, 1, none⟩ (.slice Ao8 t527.length co8)) = w12 at n0_ n1_ n2_ n3_ ⊢
   have HO529 := n0_
   have HO532 := n1_
   have BK533 := n2_
   have HB := n3_
   clear n0_ n1_ n2_ n3_
   replace HO529 := ak (Kd.R_drew HO529.out)
   replace HO532 := ak (Kd.R_drew HO532.out)
   replace BK533 := ak (blk_drew BK533.out)
   replace HB := ak (below_drew1 HB.out)
   obtain ⟨Ao14, co14, eo14⟩ := Kd.R_slice HO532.out
   (subst eo14)
   refine start_ (n := 18) (S := fun w' => w'.cell? ⟨gb533, 0, none⟩ = some (.int .i64 t526) ∧ w'.cell? ⟨gb533, 1, none⟩ = some (.slice Ao8 t527.length co8)) (ds := []) (ms 18 0) (by kernel_rfl) rfl (by kernel_rfl) ⟨(blk_cell BK533.out 0).trans rfl, (blk_cell BK533.out 1).trans rfl⟩ (fun hHeld => ?_); refine with_tabW laws_FnPairWalk.tab4 laws_FnPairWalk.bits4 (fun HT_ HW_ => ?_)
   generalize w12.drew = w13 at HO529 HO532 BK533 HB hHeld ⊢
   refine pu 1 16 ?_ (ms 18 2) rfl rfl HT_ (by kernel_rfl) (fun _ _ _ h => h) (by rfl) ?_ ?_ ?_ ?_
   rotate_left
   ·intro w'
    go_simp
    with_reducible rfl
   rotate_left
   ·simp only [SX]
    rfl
   refine pu 4 19 ?_ (ms 18 18) rfl rfl HT_ (by kernel_rfl) (fun _ _ _ h => h) (by rfl) ?_ ?_ ?_ ?_
   rotate_left
   ·intro w'
    go_simp
    with_reducible rfl
   rotate_left
   ·simp only [SX]
    rfl
   refine tk 0 15 ?_ (ms 18 19) rfl rfl HT_ HW_ (by kernel_rfl) (fun _ _ _ h => h) (by rfl) ?_ hHeld ?_ ?_ ?_
   rotate_left
   ·rintro w' ⟨s0, s1⟩
    go_simp
    with_reducible rfl
   rotate_left
   ·simp only [SX]
    rfl
   refine tk 3 18 ?_ (ms 18 27) rfl rfl HT_ HW_ (by kernel_rfl) (fun _ _ _ h => h) (by rfl) ?_ hHeld ?_ ?_ ?_
   rotate_left
   ·rintro w' ⟨s0, s1⟩
    go_simp
    with_reducible rfl
   rotate_left
   ·simp only [SX]
    rfl
   refine one_ (i := 2) (N := some 17) (ms 18 31) rfl rfl (one_of HT_.out (by kernel_rfl)) (by decide) (fun K hK => ?_)
   refine goes_ Try.func12 (by kernel_rfl) rfl #[.agg #[.int .i64 t526, .slice Ao8 t527.length co8], .slice Ao14 t530.length co14] (by rfl) rfl rfl (by (try simp only [List.map_toArray, List.map_cons, List.map_nil]); rfl) ?_
   with_reducible refine (impl_WalkOk.calls k t526 _ _ t527 _ _ t530 t534 _ ?side1 ?side2 ?side3 ?side4 A9.out).mono ?_
   (case side1 => repeat (exact (Kd.R_reads' HO529.out).2.2))
   (case side2 => exact (Kd.R_reads' HO529.out).2.1)
   (case side3 => repeat (exact (Kd.R_reads' HO532.out).2.2))
   (case side4 => exact (Kd.R_reads' HO532.out).2.1)
   rintro e w15 ⟨rfl, hb⟩
   refine ⟨_, rfl, ?_⟩
   replace HO529 := ak (Kd.R_below (rk HO529) hb)
   replace HO532 := ak (Kd.R_below (rk HO532) hb)
   replace BK533 := ak (blk_below (bk BK533) hb)
   replace HB := ak (below_step (bl1 HB GE533) hb)
   (try clear hb)
   (try clear hb2)
   (try clear hk)
   (try clear hi)
   refine hK.out _ _ ⟨(blk_cell BK533.out 0).trans rfl, (blk_cell BK533.out 1).trans rfl⟩ (fun hHeld => ?_)
   clear hK K
   refine norm_ (a' := ?_) ?_ ?_
   rotate_left
   ·show Act.put _ (some 17) _ = _
    simp only [SX]
    rfl
   refine one_ (i := 5) (N := some 20) (ms 18 63) rfl rfl (one_of HT_.out (by kernel_rfl)) (by decide) (fun K hK => ?_)
   refine goes_ Try.func13 (by kernel_rfl) rfl #[.agg #[.int .i64 t526, .slice Ao8 t527.length co8], .slice Ao14 t530.length co14] (by rfl) rfl rfl (by (try simp only [List.map_toArray, List.map_cons, List.map_nil]); rfl) ?_
   with_reducible refine (spec_WalkOk.calls k t526 _ _ t527 _ _ t530 t535 _ ?side1 ?side2 ?side3 ?side4 A10.out).mono ?_
   (case side1 => repeat (exact (Kd.R_reads' HO529.out).2.2))
   (case side2 => exact (Kd.R_reads' HO529.out).2.1)
   (case side3 => repeat (exact (Kd.R_reads' HO532.out).2.2))
   (case side4 => exact (Kd.R_reads' HO532.out).2.1)
   rintro e w16 ⟨rfl, hb⟩
   refine ⟨_, rfl, ?_⟩
   replace HO529 := ak (Kd.R_below (rk HO529) hb)
   replace HO532 := ak (Kd.R_below (rk HO532) hb)
   replace BK533 := ak (blk_below (bk BK533) hb)
   replace HB := ak (below_step (bl1 HB GE533) hb)
   (try clear hb)
   (try clear hb2)
   (try clear hk)
   (try clear hi)
   refine hK.out _ _ ⟨(blk_cell BK533.out 0).trans rfl, (blk_cell BK533.out 1).trans rfl⟩ (fun hHeld => ?_)
   clear hK K
   refine norm_ (a' := ?_) ?_ ?_
   rotate_left
   ·show Act.put _ (some 20) _ = _
    simp only [SX]
    rfl
   refine pu 6 21 ?_ (ms 18 127) rfl rfl HT_ (by kernel_rfl) (fun _ _ _ h => h) (by rfl) ?_ ?_ ?_ ?_
   rotate_left
   ·intro w'
    go_simp
    with_reducible rfl
   rotate_left
   ·simp only [SX]
    rfl
   refine pu 7 22 ?_ (ms 18 255) rfl rfl HT_ (by kernel_rfl) (fun _ _ _ h => h) (by rfl) ?_ ?_ ?_ ?_
   rotate_left
   ·intro w'
    go_simp
    with_reducible rfl
   rotate_left
   ·simp only [SX]
    rfl
   refine pure_ (i := 8) (N := some 23) (v := undef) (a' := ?_) (ms 18 511) rfl rfl (any_of HT_.out (by kernel_rfl)) (fun _ _ _ h => h) (Or.inr ⟨by rfl, rfl⟩) ?_ ?_
   rotate_left
   ·simp only [SX]
    rfl
   refine pure_ (i := 9) (N := some 24) (v := undef) (a' := ?_) (ms 18 1023) rfl rfl (any_of HT_.out (by kernel_rfl)) (fun _ _ _ h => h) (Or.inr ⟨by rfl, rfl⟩) ?_ ?_
   rotate_left
   ·simp only [SX]
    rfl
   refine pure_ (i := 10) (N := some 25) (v := undef) (a' := ?_) (ms 18 2047) rfl rfl (any_of HT_.out (by kernel_rfl)) (fun _ _ _ h => h) (Or.inr ⟨by rfl, rfl⟩) ?_ ?_
   rotate_left
   ·simp only [SX]
    rfl
   refine pure_ (i := 11) (N := some 26) (v := undef) (a' := ?_) (ms 18 4095) rfl rfl (any_of HT_.out (by kernel_rfl)) (fun _ _ _ h => h) (Or.inr ⟨by rfl, rfl⟩) ?_ ?_
   rotate_left
   ·simp only [SX]
    rfl
   refine pu 12 27 ?_ (ms 18 8191) rfl rfl HT_ (by kernel_rfl) (fun _ _ _ h => h) (by rfl) ?_ ?_ ?_ ?_
   rotate_left
   ·intro w'
    go_simp
    with_reducible rfl
   rotate_left
   ·simp only [SX]
    rfl
   refine pu 13 28 ?_ (ms 18 16383) rfl rfl HT_ (by kernel_rfl) (fun _ _ _ h => h) (by rfl) ?_ ?_ ?_ ?_
   rotate_left
   ·intro w'
    go_simp
    with_reducible rfl
   rotate_left
   ·simp only [SX]
    rfl
   refine pure_ (i := 14) (N := some 29) (v := undef) (a' := ?_) (ms 18 32767) rfl rfl (any_of HT_.out (by kernel_rfl)) (fun _ _ _ h => h) (Or.inr ⟨by rfl, rfl⟩) ?_ ?_
   rotate_left
   ·simp only [SX]
    rfl
   refine pure_ (i := 15) (N := some 30) (v := undef) (a' := ?_) (ms 18 65535) rfl rfl (any_of HT_.out (by kernel_rfl)) (fun _ _ _ h => h) (Or.inr ⟨by rfl, rfl⟩) ?_ ?_
   rotate_left
   ·simp only [SX]
    rfl
   refine pure_ (i := 16) (N := some 31) (v := undef) (a' := ?_) (ms 18 131071) rfl rfl (any_of HT_.out (by kernel_rfl)) (fun _ _ _ h => h) (Or.inr ⟨by rfl, rfl⟩) ?_ ?_
   rotate_left
   ·simp only [SX]
    rfl
   refine pu 17 32 ?_ (ms 18 262143) rfl rfl HT_ (by kernel_rfl) (fun _ _ _ h => h) (by rfl) ?_ ?_ ?_ ?_
   rotate_left
   ·intro w'
    go_simp
    with_reducible rfl
   rotate_left
   ·simp only [SX]
    rfl
   refine done_ (done_of HT_.out (by kernel_rfl)) ?_
   try go_wp2
   go_meet
   case rel => exact ⟨_, (true), (by rfl), H', ⟨by omega⟩, ⟨rk HO532⟩, ⟨rk HO529⟩, ⟨bk BK533⟩, ⟨bl1 HB GE533⟩⟩
  rw [if_neg c11] at H
  have c11b0 : (t534 != t535) = false := by simpa using c11
  (try (have c11b1 : decide (t534 = t535) = true := by simpa using c11))
  (try (have c11b2 : (t534 == t535) = true := by simpa using c11))
  clear c11
  (skip)
  replace H := Option.bind_eq_some_iff.mp H
  obtain ⟨t536, A170, H⟩ := H
  have A17 := ak A170
  clear A170
  by_cases c18 : t536 = true
  rotate_left
  ·replace c18 := Bool.eq_false_iff.mpr c18
   subst c18
   rw [if_neg (show ¬ (false = true) by decide)] at H
   have H' := ak H
   clear H
   try go_wp2
   have n0_ : Aside0 (Kd.R k33 33 ((w6.setCell ⟨gb533, 0, none⟩ (.int .i64 t526)).setCell ⟨gb533, 1, none⟩ (.slice Ao8 t527.length co8)) w.heap.size (fun _ => True) (.slice Ao8 t527.length co8) t527) := ⟨by exact Kd.R_mono (Kd.R_far (p := ⟨gb533, 1, none⟩) (Kd.R_far (p := ⟨gb533, 0, none⟩) (Kd.R_types HO529.out BK533.out (by decide)) (fun _ hk => hk.2) (.int .i64 t526)) (fun _ hk => hk.2) (.slice Ao8 t527.length co8)) (fun _ hk => trivial)⟩
   have n1_ : Aside0 (Kd.R (Kd.int .i64) 3 ((w6.setCell ⟨gb533, 0, none⟩ (.int .i64 t526)).setCell ⟨gb533, 1, none⟩ (.slice Ao8 t527.length co8)) w.heap.size (fun _ => True) v531 t530) := ⟨by exact Kd.R_mono (Kd.R_far (p := ⟨gb533, 1, none⟩) (Kd.R_far (p := ⟨gb533, 0, none⟩) (Kd.R_types HO532.out BK533.out (by decide)) (fun _ hk => hk.2) (.int .i64 t526)) (fun _ hk => hk.2) (.slice Ao8 t527.length co8)) (fun _ hk => trivial)⟩
   have n2_ : Aside0 (((w6.setCell ⟨gb533, 0, none⟩ (.int .i64 t526)).setCell ⟨gb533, 1, none⟩ (.slice Ao8 t527.length co8)).heap[gb533]? = some (.cells #[.int .i64 t526, .slice Ao8 t527.length co8] 25 (0, 0))) := ⟨by refine blk_put (cs := #[.int .i64 t526, .slice none 0 0]) ?_ 1 _ rfl; refine blk_put (cs := #[.int .i64 0, .slice none 0 0]) ?_ 0 _ rfl; exact BK533.out⟩
   have n3_ : Aside0 (Below w.heap.size w ((w6.setCell ⟨gb533, 0, none⟩ (.int .i64 t526)).setCell ⟨gb533, 1, none⟩ (.slice Ao8 t527.length co8))) := ⟨bl1 HB GE533⟩
   (try clear HO529)
   (try clear HO532)
   (try clear BK533)
   (try clear HB)
   generalize ((w6.setCell ⟨gb533, 0, none⟩ (.int .i64 t526)).setCell ⟨gb533, 1, none⟩ (.slice Ao8 t527.length co8)) = w25 at n0_ n1_ n2_ n3_ ⊢
   have HO529 := n0_
   have HO532 := n1_
   have BK533 := n2_
   have HB := n3_
   clear n0_ n1_ n2_ n3_
   replace HO529 := ak (Kd.R_drew HO529.out)
   replace HO532 := ak (Kd.R_drew HO532.out)
   replace BK533 := ak (blk_drew BK533.out)
   replace HB := ak (below_drew1 HB.out)
   obtain ⟨Ao27, co27, eo27⟩ := Kd.R_slice HO532.out
   (subst eo27)
   refine start_ (n := 18) (S := fun w' => w'.cell? ⟨gb533, 0, none⟩ = some (.int .i64 t526) ∧ w'.cell? ⟨gb533, 1, none⟩ = some (.slice Ao8 t527.length co8)) (ds := []) (ms 18 0) (by kernel_rfl) rfl (by kernel_rfl) ⟨(blk_cell BK533.out 0).trans rfl, (blk_cell BK533.out 1).trans rfl⟩ (fun hHeld => ?_); refine with_tabW laws_FnPairWalk.tab4 laws_FnPairWalk.bits4 (fun HT_ HW_ => ?_)
   generalize w25.drew = w26 at HO529 HO532 BK533 HB hHeld ⊢
   refine pu 1 16 ?_ (ms 18 2) rfl rfl HT_ (by kernel_rfl) (fun _ _ _ h => h) (by rfl) ?_ ?_ ?_ ?_
   rotate_left
   ·intro w'
    go_simp
    with_reducible rfl
   rotate_left
   ·simp only [SX]
    rfl
   refine pu 4 19 ?_ (ms 18 18) rfl rfl HT_ (by kernel_rfl) (fun _ _ _ h => h) (by rfl) ?_ ?_ ?_ ?_
   rotate_left
   ·intro w'
    go_simp
    with_reducible rfl
   rotate_left
   ·simp only [SX]
    rfl
   refine tk 0 15 ?_ (ms 18 19) rfl rfl HT_ HW_ (by kernel_rfl) (fun _ _ _ h => h) (by rfl) ?_ hHeld ?_ ?_ ?_
   rotate_left
   ·rintro w' ⟨s0, s1⟩
    go_simp
    with_reducible rfl
   rotate_left
   ·simp only [SX]
    rfl
   refine tk 3 18 ?_ (ms 18 27) rfl rfl HT_ HW_ (by kernel_rfl) (fun _ _ _ h => h) (by rfl) ?_ hHeld ?_ ?_ ?_
   rotate_left
   ·rintro w' ⟨s0, s1⟩
    go_simp
    with_reducible rfl
   rotate_left
   ·simp only [SX]
    rfl
   refine one_ (i := 2) (N := some 17) (ms 18 31) rfl rfl (one_of HT_.out (by kernel_rfl)) (by decide) (fun K hK => ?_)
   refine goes_ Try.func12 (by kernel_rfl) rfl #[.agg #[.int .i64 t526, .slice Ao8 t527.length co8], .slice Ao27 t530.length co27] (by rfl) rfl rfl (by (try simp only [List.map_toArray, List.map_cons, List.map_nil]); rfl) ?_
   with_reducible refine (impl_WalkOk.calls k t526 _ _ t527 _ _ t530 t534 _ ?side1 ?side2 ?side3 ?side4 A9.out).mono ?_
   (case side1 => repeat (exact (Kd.R_reads' HO529.out).2.2))
   (case side2 => exact (Kd.R_reads' HO529.out).2.1)
   (case side3 => repeat (exact (Kd.R_reads' HO532.out).2.2))
   (case side4 => exact (Kd.R_reads' HO532.out).2.1)
   rintro e w28 ⟨rfl, hb⟩
   refine ⟨_, rfl, ?_⟩
   replace HO529 := ak (Kd.R_below (rk HO529) hb)
   replace HO532 := ak (Kd.R_below (rk HO532) hb)
   replace BK533 := ak (blk_below (bk BK533) hb)
   replace HB := ak (below_step (bl1 HB GE533) hb)
   (try clear hb)
   (try clear hb2)
   (try clear hk)
   (try clear hi)
   refine hK.out _ _ ⟨(blk_cell BK533.out 0).trans rfl, (blk_cell BK533.out 1).trans rfl⟩ (fun hHeld => ?_)
   clear hK K
   refine norm_ (a' := ?_) ?_ ?_
   rotate_left
   ·show Act.put _ (some 17) _ = _
    simp only [SX]
    rfl
   refine one_ (i := 5) (N := some 20) (ms 18 63) rfl rfl (one_of HT_.out (by kernel_rfl)) (by decide) (fun K hK => ?_)
   refine goes_ Try.func13 (by kernel_rfl) rfl #[.agg #[.int .i64 t526, .slice Ao8 t527.length co8], .slice Ao27 t530.length co27] (by rfl) rfl rfl (by (try simp only [List.map_toArray, List.map_cons, List.map_nil]); rfl) ?_
   with_reducible refine (spec_WalkOk.calls k t526 _ _ t527 _ _ t530 t535 _ ?side1 ?side2 ?side3 ?side4 A10.out).mono ?_
   (case side1 => repeat (exact (Kd.R_reads' HO529.out).2.2))
   (case side2 => exact (Kd.R_reads' HO529.out).2.1)
   (case side3 => repeat (exact (Kd.R_reads' HO532.out).2.2))
   (case side4 => exact (Kd.R_reads' HO532.out).2.1)
   rintro e w29 ⟨rfl, hb⟩
   refine ⟨_, rfl, ?_⟩
   replace HO529 := ak (Kd.R_below (rk HO529) hb)
   replace HO532 := ak (Kd.R_below (rk HO532) hb)
   replace BK533 := ak (blk_below (bk BK533) hb)
   replace HB := ak (below_step (bl1 HB GE533) hb)
   (try clear hb)
   (try clear hb2)
   (try clear hk)
   (try clear hi)
   refine hK.out _ _ ⟨(blk_cell BK533.out 0).trans rfl, (blk_cell BK533.out 1).trans rfl⟩ (fun hHeld => ?_)
   clear hK K
   refine norm_ (a' := ?_) ?_ ?_
   rotate_left
   ·show Act.put _ (some 20) _ = _
    simp only [SX]
    rfl
   refine pu 6 21 ?_ (ms 18 127) rfl rfl HT_ (by kernel_rfl) (fun _ _ _ h => h) (by rfl) ?_ ?_ ?_ ?_
   rotate_left
   ·intro w'
    go_simp
    with_reducible rfl
   rotate_left
   ·simp only [SX]
    rfl
   refine pu 7 22 ?_ (ms 18 255) rfl rfl HT_ (by kernel_rfl) (fun _ _ _ h => h) (by rfl) ?_ ?_ ?_ ?_
   rotate_left
   ·intro w'
    go_simp
    with_reducible rfl
   rotate_left
   ·simp only [SX]
    rfl
   refine pu 9 24 ?_ (ms 18 767) rfl rfl HT_ (by kernel_rfl) (fun _ _ _ h => h) (by rfl) ?_ ?_ ?_ ?_
   rotate_left
   ·intro w'
    go_simp
    with_reducible rfl
   rotate_left
   ·simp only [SX]
    rfl
   refine tk 8 23 ?_ (ms 18 1023) rfl rfl HT_ HW_ (by kernel_rfl) (fun _ _ _ h => h) (by rfl) ?_ hHeld ?_ ?_ ?_
   rotate_left
   ·rintro w' ⟨s0, s1⟩
    go_simp
    with_reducible rfl
   rotate_left
   ·simp only [SX]
    rfl
   refine one_ (i := 10) (N := some 25) (ms 18 2047) rfl rfl (one_of HT_.out (by kernel_rfl)) (by decide) (fun K hK => ?_)
   refine goes_ Try.func12 (by kernel_rfl) rfl #[.agg #[.int .i64 t526, .slice Ao8 t527.length co8], .slice Ao27 t530.length co27] (by rfl) rfl rfl (by (try simp only [List.map_toArray, List.map_cons, List.map_nil]); rfl) ?_
   with_reducible refine (impl_WalkOk.calls k t526 _ _ t527 _ _ t530 false _ ?side1 ?side2 ?side3 ?side4 A17.out).mono ?_
   (case side1 => repeat (exact (Kd.R_reads' HO529.out).2.2))
   (case side2 => exact (Kd.R_reads' HO529.out).2.1)
   (case side3 => repeat (exact (Kd.R_reads' HO532.out).2.2))
   (case side4 => exact (Kd.R_reads' HO532.out).2.1)
   rintro e w30 ⟨rfl, hb⟩
   refine ⟨_, rfl, ?_⟩
   replace HO529 := ak (Kd.R_below (rk HO529) hb)
   replace HO532 := ak (Kd.R_below (rk HO532) hb)
   replace BK533 := ak (blk_below (bk BK533) hb)
   replace HB := ak (below_step (bl1 HB GE533) hb)
   (try clear hb)
   (try clear hb2)
   (try clear hk)
   (try clear hi)
   refine hK.out _ _ ⟨(blk_cell BK533.out 0).trans rfl, (blk_cell BK533.out 1).trans rfl⟩ (fun hHeld => ?_)
   clear hK K
   refine norm_ (a' := ?_) ?_ ?_
   rotate_left
   ·show Act.put _ (some 25) _ = _
    simp only [SX]
    rfl
   refine pu 11 26 ?_ (ms 18 4095) rfl rfl HT_ (by kernel_rfl) (fun _ _ _ h => h) (by rfl) ?_ ?_ ?_ ?_
   rotate_left
   ·intro w'
    go_simp
    with_reducible rfl
   rotate_left
   ·simp only [SX]
    rfl
   refine pu 12 27 ?_ (ms 18 8191) rfl rfl HT_ (by kernel_rfl) (fun _ _ _ h => h) (by rfl) ?_ ?_ ?_ ?_
   rotate_left
   ·intro w'
    go_simp
    with_reducible rfl
   rotate_left
   ·simp only [SX]
    rfl
   refine pu 13 28 ?_ (ms 18 16383) rfl rfl HT_ (by kernel_rfl) (fun _ _ _ h => h) (by rfl) ?_ ?_ ?_ ?_
   rotate_left
   ·intro w'
    go_simp
    with_reducible rfl
   rotate_left
   ·simp only [SX]
    rfl
   refine pure_ (i := 14) (N := some 29) (v := undef) (a' := ?_) (ms 18 32767) rfl rfl (any_of HT_.out (by kernel_rfl)) (fun _ _ _ h => h) (Or.inr ⟨by rfl, rfl⟩) ?_ ?_
   rotate_left
   ·simp only [SX]
    rfl
   refine pure_ (i := 15) (N := some 30) (v := undef) (a' := ?_) (ms 18 65535) rfl rfl (any_of HT_.out (by kernel_rfl)) (fun _ _ _ h => h) (Or.inr ⟨by rfl, rfl⟩) ?_ ?_
   rotate_left
   ·simp only [SX]
    rfl
   refine pure_ (i := 16) (N := some 31) (v := undef) (a' := ?_) (ms 18 131071) rfl rfl (any_of HT_.out (by kernel_rfl)) (fun _ _ _ h => h) (Or.inr ⟨by rfl, rfl⟩) ?_ ?_
   rotate_left
   ·simp only [SX]
    rfl
   refine pu 17 32 ?_ (ms 18 262143) rfl rfl HT_ (by kernel_rfl) (fun _ _ _ h => h) (by rfl) ?_ ?_ ?_ ?_
   rotate_left
   ·intro w'
    go_simp
    with_reducible rfl
   rotate_left
   ·simp only [SX]
    rfl
   refine done_ (done_of HT_.out (by kernel_rfl)) ?_
   try go_wp2
   go_meet
   case rel => exact ⟨_, (true), (by rfl), H', ⟨by omega⟩, ⟨rk HO532⟩, ⟨rk HO529⟩, ⟨bk BK533⟩, ⟨bl1 HB GE533⟩⟩
  subst c18
  rw [if_pos rfl] at H
  have H' := ak H
  clear H
  try go_wp2
  have n0_ : Aside0 (Kd.R k33 33 ((w6.setCell ⟨gb533, 0, none⟩ (.int .i64 t526)).setCell ⟨gb533, 1, none⟩ (.slice Ao8 t527.length co8)) w.heap.size (fun _ => True) (.slice Ao8 t527.length co8) t527) := ⟨by exact Kd.R_mono (Kd.R_far (p := ⟨gb533, 1, none⟩) (Kd.R_far (p := ⟨gb533, 0, none⟩) (Kd.R_types HO529.out BK533.out (by decide)) (fun _ hk => hk.2) (.int .i64 t526)) (fun _ hk => hk.2) (.slice Ao8 t527.length co8)) (fun _ hk => trivial)⟩
  have n1_ : Aside0 (Kd.R (Kd.int .i64) 3 ((w6.setCell ⟨gb533, 0, none⟩ (.int .i64 t526)).setCell ⟨gb533, 1, none⟩ (.slice Ao8 t527.length co8)) w.heap.size (fun _ => True) v531 t530) := ⟨by exact Kd.R_mono (Kd.R_far (p := ⟨gb533, 1, none⟩) (Kd.R_far (p := ⟨gb533, 0, none⟩) (Kd.R_types HO532.out BK533.out (by decide)) (fun _ hk => hk.2) (.int .i64 t526)) (fun _ hk => hk.2) (.slice Ao8 t527.length co8)) (fun _ hk => trivial)⟩
  have n2_ : Aside0 (((w6.setCell ⟨gb533, 0, none⟩ (.int .i64 t526)).setCell ⟨gb533, 1, none⟩ (.slice Ao8 t527.length co8)).heap[gb533]? = some (.cells #[.int .i64 t526, .slice Ao8 t527.length co8] 25 (0, 0))) := ⟨by refine blk_put (cs := #[.int .i64 t526, .slice none 0 0]) ?_ 1 _ rfl; refine blk_put (cs := #[.int .i64 0, .slice none 0 0]) ?_ 0 _ rfl; exact BK533.out⟩
  have n3_ : Aside0 (Below w.heap.size w ((w6.setCell ⟨gb533, 0, none⟩ (.int .i64 t526)).setCell ⟨gb533, 1, none⟩ (.slice Ao8 t527.length co8))) := ⟨bl1 HB GE533⟩
  (try clear HO529)
  (try clear HO532)
  (try clear BK533)
  (try clear HB)
  generalize ((w6.setCell ⟨gb533, 0, none⟩ (.int .i64 t526)).setCell ⟨gb533, 1, none⟩ (.slice Ao8 t527.length co8)) = w19 at n0_ n1_ n2_ n3_ ⊢
  have HO529 := n0_
  have HO532 := n1_
  have BK533 := n2_
  have HB := n3_
  clear n0_ n1_ n2_ n3_
  replace HO529 := ak (Kd.R_drew HO529.out)
  replace HO532 := ak (Kd.R_drew HO532.out)
  replace BK533 := ak (blk_drew BK533.out)
  replace HB := ak (below_drew1 HB.out)
  obtain ⟨Ao21, co21, eo21⟩ := Kd.R_slice HO532.out
  (subst eo21)
  refine start_ (n := 18) (S := fun w' => w'.cell? ⟨gb533, 0, none⟩ = some (.int .i64 t526) ∧ w'.cell? ⟨gb533, 1, none⟩ = some (.slice Ao8 t527.length co8)) (ds := []) (ms 18 0) (by kernel_rfl) rfl (by kernel_rfl) ⟨(blk_cell BK533.out 0).trans rfl, (blk_cell BK533.out 1).trans rfl⟩ (fun hHeld => ?_); refine with_tabW laws_FnPairWalk.tab4 laws_FnPairWalk.bits4 (fun HT_ HW_ => ?_)
  generalize w19.drew = w20 at HO529 HO532 BK533 HB hHeld ⊢
  refine pu 1 16 ?_ (ms 18 2) rfl rfl HT_ (by kernel_rfl) (fun _ _ _ h => h) (by rfl) ?_ ?_ ?_ ?_
  rotate_left
  ·intro w'
   go_simp
   with_reducible rfl
  rotate_left
  ·simp only [SX]
   rfl
  refine pu 4 19 ?_ (ms 18 18) rfl rfl HT_ (by kernel_rfl) (fun _ _ _ h => h) (by rfl) ?_ ?_ ?_ ?_
  rotate_left
  ·intro w'
   go_simp
   with_reducible rfl
  rotate_left
  ·simp only [SX]
   rfl
  refine tk 0 15 ?_ (ms 18 19) rfl rfl HT_ HW_ (by kernel_rfl) (fun _ _ _ h => h) (by rfl) ?_ hHeld ?_ ?_ ?_
  rotate_left
  ·rintro w' ⟨s0, s1⟩
   go_simp
   with_reducible rfl
  rotate_left
  ·simp only [SX]
   rfl
  refine tk 3 18 ?_ (ms 18 27) rfl rfl HT_ HW_ (by kernel_rfl) (fun _ _ _ h => h) (by rfl) ?_ hHeld ?_ ?_ ?_
  rotate_left
  ·rintro w' ⟨s0, s1⟩
   go_simp
   with_reducible rfl
  rotate_left
  ·simp only [SX]
   rfl
  refine one_ (i := 2) (N := some 17) (ms 18 31) rfl rfl (one_of HT_.out (by kernel_rfl)) (by decide) (fun K hK => ?_)
  refine goes_ Try.func12 (by kernel_rfl) rfl #[.agg #[.int .i64 t526, .slice Ao8 t527.length co8], .slice Ao21 t530.length co21] (by rfl) rfl rfl (by (try simp only [List.map_toArray, List.map_cons, List.map_nil]); rfl) ?_
  with_reducible refine (impl_WalkOk.calls k t526 _ _ t527 _ _ t530 t534 _ ?side1 ?side2 ?side3 ?side4 A9.out).mono ?_
  (case side1 => repeat (exact (Kd.R_reads' HO529.out).2.2))
  (case side2 => exact (Kd.R_reads' HO529.out).2.1)
  (case side3 => repeat (exact (Kd.R_reads' HO532.out).2.2))
  (case side4 => exact (Kd.R_reads' HO532.out).2.1)
  rintro e w22 ⟨rfl, hb⟩
  refine ⟨_, rfl, ?_⟩
  replace HO529 := ak (Kd.R_below (rk HO529) hb)
  replace HO532 := ak (Kd.R_below (rk HO532) hb)
  replace BK533 := ak (blk_below (bk BK533) hb)
  replace HB := ak (below_step (bl1 HB GE533) hb)
  (try clear hb)
  (try clear hb2)
  (try clear hk)
  (try clear hi)
  refine hK.out _ _ ⟨(blk_cell BK533.out 0).trans rfl, (blk_cell BK533.out 1).trans rfl⟩ (fun hHeld => ?_)
  clear hK K
  refine norm_ (a' := ?_) ?_ ?_
  rotate_left
  ·show Act.put _ (some 17) _ = _
   simp only [SX]
   rfl
  refine one_ (i := 5) (N := some 20) (ms 18 63) rfl rfl (one_of HT_.out (by kernel_rfl)) (by decide) (fun K hK => ?_)
  refine goes_ Try.func13 (by kernel_rfl) rfl #[.agg #[.int .i64 t526, .slice Ao8 t527.length co8], .slice Ao21 t530.length co21] (by rfl) rfl rfl (by (try simp only [List.map_toArray, List.map_cons, List.map_nil]); rfl) ?_
  with_reducible refine (spec_WalkOk.calls k t526 _ _ t527 _ _ t530 t535 _ ?side1 ?side2 ?side3 ?side4 A10.out).mono ?_
  (case side1 => repeat (exact (Kd.R_reads' HO529.out).2.2))
  (case side2 => exact (Kd.R_reads' HO529.out).2.1)
  (case side3 => repeat (exact (Kd.R_reads' HO532.out).2.2))
  (case side4 => exact (Kd.R_reads' HO532.out).2.1)
  rintro e w23 ⟨rfl, hb⟩
  refine ⟨_, rfl, ?_⟩
  replace HO529 := ak (Kd.R_below (rk HO529) hb)
  replace HO532 := ak (Kd.R_below (rk HO532) hb)
  replace BK533 := ak (blk_below (bk BK533) hb)
  replace HB := ak (below_step (bl1 HB GE533) hb)
  (try clear hb)
  (try clear hb2)
  (try clear hk)
  (try clear hi)
  refine hK.out _ _ ⟨(blk_cell BK533.out 0).trans rfl, (blk_cell BK533.out 1).trans rfl⟩ (fun hHeld => ?_)
  clear hK K
  refine norm_ (a' := ?_) ?_ ?_
  rotate_left
  ·show Act.put _ (some 20) _ = _
   simp only [SX]
   rfl
  refine pu 6 21 ?_ (ms 18 127) rfl rfl HT_ (by kernel_rfl) (fun _ _ _ h => h) (by rfl) ?_ ?_ ?_ ?_
  rotate_left
  ·intro w'
   go_simp
   with_reducible rfl
  rotate_left
  ·simp only [SX]
   rfl
  refine pu 7 22 ?_ (ms 18 255) rfl rfl HT_ (by kernel_rfl) (fun _ _ _ h => h) (by rfl) ?_ ?_ ?_ ?_
  rotate_left
  ·intro w'
   go_simp
   with_reducible rfl
  rotate_left
  ·simp only [SX]
   rfl
  refine pu 9 24 ?_ (ms 18 767) rfl rfl HT_ (by kernel_rfl) (fun _ _ _ h => h) (by rfl) ?_ ?_ ?_ ?_
  rotate_left
  ·intro w'
   go_simp
   with_reducible rfl
  rotate_left
  ·simp only [SX]
   rfl
  refine tk 8 23 ?_ (ms 18 1023) rfl rfl HT_ HW_ (by kernel_rfl) (fun _ _ _ h => h) (by rfl) ?_ hHeld ?_ ?_ ?_
  rotate_left
  ·rintro w' ⟨s0, s1⟩
   go_simp
   with_reducible rfl
  rotate_left
  ·simp only [SX]
   rfl
  refine one_ (i := 10) (N := some 25) (ms 18 2047) rfl rfl (one_of HT_.out (by kernel_rfl)) (by decide) (fun K hK => ?_)
  refine goes_ Try.func12 (by kernel_rfl) rfl #[.agg #[.int .i64 t526, .slice Ao8 t527.length co8], .slice Ao21 t530.length co21] (by rfl) rfl rfl (by (try simp only [List.map_toArray, List.map_cons, List.map_nil]); rfl) ?_
  with_reducible refine (impl_WalkOk.calls k t526 _ _ t527 _ _ t530 true _ ?side1 ?side2 ?side3 ?side4 A17.out).mono ?_
  (case side1 => repeat (exact (Kd.R_reads' HO529.out).2.2))
  (case side2 => exact (Kd.R_reads' HO529.out).2.1)
  (case side3 => repeat (exact (Kd.R_reads' HO532.out).2.2))
  (case side4 => exact (Kd.R_reads' HO532.out).2.1)
  rintro e w24 ⟨rfl, hb⟩
  refine ⟨_, rfl, ?_⟩
  replace HO529 := ak (Kd.R_below (rk HO529) hb)
  replace HO532 := ak (Kd.R_below (rk HO532) hb)
  replace BK533 := ak (blk_below (bk BK533) hb)
  replace HB := ak (below_step (bl1 HB GE533) hb)
  (try clear hb)
  (try clear hb2)
  (try clear hk)
  (try clear hi)
  refine hK.out _ _ ⟨(blk_cell BK533.out 0).trans rfl, (blk_cell BK533.out 1).trans rfl⟩ (fun hHeld => ?_)
  clear hK K
  refine norm_ (a' := ?_) ?_ ?_
  rotate_left
  ·show Act.put _ (some 25) _ = _
   simp only [SX]
   rfl
  refine pu 11 26 ?_ (ms 18 4095) rfl rfl HT_ (by kernel_rfl) (fun _ _ _ h => h) (by rfl) ?_ ?_ ?_ ?_
  rotate_left
  ·intro w'
   go_simp
   with_reducible rfl
  rotate_left
  ·simp only [SX]
   rfl
  refine pu 12 27 ?_ (ms 18 8191) rfl rfl HT_ (by kernel_rfl) (fun _ _ _ h => h) (by rfl) ?_ ?_ ?_ ?_
  rotate_left
  ·intro w'
   go_simp
   with_reducible rfl
  rotate_left
  ·simp only [SX]
   rfl
  refine pu 13 28 ?_ (ms 18 16383) rfl rfl HT_ (by kernel_rfl) (fun _ _ _ h => h) (by rfl) ?_ ?_ ?_ ?_
  rotate_left
  ·intro w'
   go_simp
   with_reducible rfl
  rotate_left
  ·simp only [SX]
   rfl
  refine pu 14 29 ?_ (ms 18 32767) rfl rfl HT_ (by kernel_rfl) (fun _ _ _ h => h) (by rfl) ?_ ?_ ?_ ?_
  rotate_left
  ·intro w'
   go_simp
   with_reducible rfl
  rotate_left
  ·simp only [SX]
   rfl
  refine pu 15 30 ?_ (ms 18 65535) rfl rfl HT_ (by kernel_rfl) (fun _ _ _ h => h) (by rfl) ?_ ?_ ?_ ?_
  rotate_left
  ·intro w'
   go_simp
   with_reducible rfl
  rotate_left
  ·simp only [SX]
   rfl
  refine pu 16 31 ?_ (ms 18 131071) rfl rfl HT_ (by kernel_rfl) (fun _ _ _ h => h) (by rfl) ?_ ?_ ?_ ?_
  rotate_left
  ·intro w'
   go_simp
   with_reducible rfl
  rotate_left
  ·simp only [SX]
   rfl
  refine pu 17 32 ?_ (ms 18 262143) rfl rfl HT_ (by kernel_rfl) (fun _ _ _ h => h) (by rfl) ?_ ?_ ?_ ?_
  rotate_left
  ·intro w'
   go_simp
   with_reducible rfl
  rotate_left
  ·simp only [SX]
   rfl
  refine done_ (done_of HT_.out (by kernel_rfl)) ?_
  try go_wp2
  go_meet
  case rel => exact ⟨_, (((t530.length : Int) == 0)), (by rfl), H', ⟨by omega⟩, ⟨rk HO532⟩, ⟨rk HO529⟩, ⟨bk BK533⟩, ⟨bl1 HB GE533⟩⟩
 clear HC4
 try clear c1
 try clear p2
 try clear c11
 try clear c11b0
 try clear c11b1
 try clear c11b2
 try clear c12
 try clear c13
 try clear c18
 obtain ⟨kq, x32_3, rfl, HA, HJ3, HO_4, HO_534001, BK533, HB⟩ := hcut
 cases kq with
 | zero => exact absurd HA.out (by simp [laws_FnPairWalk.j0])
 | succ kj3 =>
  have H := HA.out
  clear HA
  simp only [laws_FnPairWalk.j0] at H
  by_cases c31 : x32_3 = true
  ·subst c31
   rw [if_pos rfl] at H
   replace H := Option.bind_eq_some_iff.mp H
   obtain ⟨t537, A320, H⟩ := H
   have A32 := ak A320
   clear A320
   replace H := Option.bind_eq_some_iff.mp H
   obtain ⟨t538, A330, H⟩ := H
   have A33 := ak A330
   clear A330
   obtain rfl := Option.some.inj H
   try go_wp2
   replace HO_4 := ak (Kd.R_drew HO_4.out)
   replace HO_534001 := ak (Kd.R_drew HO_534001.out)
   replace BK533 := ak (blk_drew BK533.out)
   replace HB := ak (below_drew1 HB.out)
   obtain ⟨Ao35, co35, eo35⟩ := Kd.R_slice HO_4.out
   (subst eo35)
   refine start_ (n := 8) (S := fun w' => w'.cell? ⟨gb533, 0, none⟩ = some (.int .i64 t526) ∧ w'.cell? ⟨gb533, 1, none⟩ = some (.slice Ao8 t527.length co8)) (ds := []) (ms 8 0) (by kernel_rfl) rfl (by kernel_rfl) ⟨(blk_cell BK533.out 0).trans rfl, (blk_cell BK533.out 1).trans rfl⟩ (fun hHeld => ?_); refine with_tabW laws_FnPairWalk.tab5 laws_FnPairWalk.bits5 (fun HT_ HW_ => ?_)
   generalize wc.drew = w34 at HO_4 HO_534001 BK533 HB hHeld ⊢
   refine pu 1 34 ?_ (ms 8 2) rfl rfl HT_ (by kernel_rfl) (fun _ _ _ h => h) (by rfl) ?_ ?_ ?_ ?_
   rotate_left
   ·intro w'
    go_simp
    with_reducible rfl
   rotate_left
   ·simp only [SX]
    rfl
   refine pu 4 37 ?_ (ms 8 18) rfl rfl HT_ (by kernel_rfl) (fun _ _ _ h => h) (by rfl) ?_ ?_ ?_ ?_
   rotate_left
   ·intro w'
    go_simp
    with_reducible rfl
   rotate_left
   ·simp only [SX]
    rfl
   refine tk 0 33 ?_ (ms 8 19) rfl rfl HT_ HW_ (by kernel_rfl) (fun _ _ _ h => h) (by rfl) ?_ hHeld ?_ ?_ ?_
   rotate_left
   ·rintro w' ⟨s0, s1⟩
    go_simp
    with_reducible rfl
   rotate_left
   ·simp only [SX]
    rfl
   refine tk 3 36 ?_ (ms 8 27) rfl rfl HT_ HW_ (by kernel_rfl) (fun _ _ _ h => h) (by rfl) ?_ hHeld ?_ ?_ ?_
   rotate_left
   ·rintro w' ⟨s0, s1⟩
    go_simp
    with_reducible rfl
   rotate_left
   ·simp only [SX]
    rfl
   refine one_ (i := 2) (N := some 35) (ms 8 31) rfl rfl (one_of HT_.out (by kernel_rfl)) (by decide) (fun K hK => ?_)
   refine goes_ Try.func12 (by kernel_rfl) rfl #[.agg #[.int .i64 t526, .slice Ao8 t527.length co8], .slice Ao35 t530.length co35] (by rfl) rfl rfl (by (try simp only [List.map_toArray, List.map_cons, List.map_nil]); rfl) ?_
   with_reducible refine (impl_WalkOk.calls kj3 t526 _ _ t527 _ _ t530 t537 _ ?side1 ?side2 ?side3 ?side4 A32.out).mono ?_
   (case side1 => repeat (exact (Kd.R_reads' HO_534001.out).2.2))
   (case side2 => exact (Kd.R_reads' HO_534001.out).2.1)
   (case side3 => repeat (exact (Kd.R_reads' HO_4.out).2.2))
   (case side4 => exact (Kd.R_reads' HO_4.out).2.1)
   rintro e w36 ⟨rfl, hb⟩
   refine ⟨_, rfl, ?_⟩
   replace HO_4 := ak (Kd.R_below (rk HO_4) hb)
   replace HO_534001 := ak (Kd.R_below (rk HO_534001) hb)
   replace BK533 := ak (blk_below (bk BK533) hb)
   replace HB := ak (below_step (bl1 HB GE533) hb)
   (try clear hb)
   (try clear hb2)
   (try clear hk)
   (try clear hi)
   refine hK.out _ _ ⟨(blk_cell BK533.out 0).trans rfl, (blk_cell BK533.out 1).trans rfl⟩ (fun hHeld => ?_)
   clear hK K
   refine norm_ (a' := ?_) ?_ ?_
   rotate_left
   ·show Act.put _ (some 35) _ = _
    simp only [SX]
    rfl
   refine one_ (i := 5) (N := some 38) (ms 8 63) rfl rfl (one_of HT_.out (by kernel_rfl)) (by decide) (fun K hK => ?_)
   refine goes_ Try.func13 (by kernel_rfl) rfl #[.agg #[.int .i64 t526, .slice Ao8 t527.length co8], .slice Ao35 t530.length co35] (by rfl) rfl rfl (by (try simp only [List.map_toArray, List.map_cons, List.map_nil]); rfl) ?_
   with_reducible refine (spec_WalkOk.calls kj3 t526 _ _ t527 _ _ t530 t538 _ ?side1 ?side2 ?side3 ?side4 A33.out).mono ?_
   (case side1 => repeat (exact (Kd.R_reads' HO_534001.out).2.2))
   (case side2 => exact (Kd.R_reads' HO_534001.out).2.1)
   (case side3 => repeat (exact (Kd.R_reads' HO_4.out).2.2))
   (case side4 => exact (Kd.R_reads' HO_4.out).2.1)
   rintro e w37 ⟨rfl, hb⟩
   refine ⟨_, rfl, ?_⟩
   replace HO_4 := ak (Kd.R_below (rk HO_4) hb)
   replace HO_534001 := ak (Kd.R_below (rk HO_534001) hb)
   replace BK533 := ak (blk_below (bk BK533) hb)
   replace HB := ak (below_step (bl1 HB GE533) hb)
   (try clear hb)
   (try clear hb2)
   (try clear hk)
   (try clear hi)
   refine hK.out _ _ ⟨(blk_cell BK533.out 0).trans rfl, (blk_cell BK533.out 1).trans rfl⟩ (fun hHeld => ?_)
   clear hK K
   refine norm_ (a' := ?_) ?_ ?_
   rotate_left
   ·show Act.put _ (some 38) _ = _
    simp only [SX]
    rfl
   refine pu 6 39 ?_ (ms 8 127) rfl rfl HT_ (by kernel_rfl) (fun _ _ _ h => h) (by rfl) ?_ ?_ ?_ ?_
   rotate_left
   ·intro w'
    go_simp
    with_reducible rfl
   rotate_left
   ·simp only [SX]
    rfl
   refine pu 7 2 ?_ (ms 8 255) rfl rfl HT_ (by kernel_rfl) (fun _ _ _ h => h) (by rfl) ?_ ?_ ?_ ?_
   rotate_left
   ·intro w'
    go_simp
    with_reducible rfl
   rotate_left
   ·simp only [SX]
    rfl
   refine done_ (done_of HT_.out (by kernel_rfl)) ?_
   try go_wp2
   go_ret
   exact ⟨by (simp [*, errW_none, errW_some] <;> rfl), bl1 HB GE533⟩
  replace c31 := Bool.eq_false_iff.mpr c31
  subst c31
  rw [if_neg (show ¬ (false = true) by decide)] at H
  by_cases c38 : 0 < (t530.length : Int)
  rotate_left
  ·rw [if_neg c38] at H
   exact absurd H (by simp)
  rw [if_pos c38] at H
  have c38b0 : decide (0 < (t530.length : Int)) = true := decide_eq_true c38
  have c38b1 : decide (0 < t530.length) = true := decide_eq_true (by omega)
  clear c38
  by_cases c39 : 0 ≤ (rd t530 0)
  rotate_left
  ·rw [if_neg c39] at H
   exact absurd H (by simp)
  rw [if_pos c39] at H
  have c39b0 : decide (0 ≤ (rd t530 0)) = true := decide_eq_true c39
  clear c39
  by_cases c40 : (rd t530 0) < (t527.length : Int)
  rotate_left
  ·rw [if_neg c40] at H
   exact absurd H (by simp)
  rw [if_pos c40] at H
  have c40b0 : decide ((rd t530 0) < (t527.length : Int)) = true := decide_eq_true c40
  clear c40
  obtain ⟨ji41, hji41⟩ : ∃ j_ : Int, (wrap64 ((t530.length : Int) - 1)) = j_ := ⟨_, rfl⟩
  replace H : (if 0 ≤ (ji41) then (if (ji41) < (t530.length : Int) then (if 0 ≤ (rd t530 (ji41)) then (if (rd t530 (ji41)) < (t527.length : Int) then ((impl_PairAll.f kj3 t526 t527 ((rd_T33 t527 (rd t530 0)).f0) ((rd_T33 t527 (rd t530 (ji41))).f1)).bind fun t543 => (laws_FnPairWalk.l0 kj3 t530 t543 0 t526 t527)) else (none)) else (none)) else (none)) else (none)) = some r := by (rw [hji41] at H; exact H)
  have hji41w : (IntKind.i64.wrap ((t530.length : Int) - 1)) = ji41 := (i64_w _).trans hji41
  by_cases c42 : 0 ≤ (ji41)
  rotate_left
  ·rw [if_neg c42] at H
   exact absurd H (by simp)
  rw [if_pos c42] at H
  have c42b0 : decide (0 ≤ (ji41)) = true := decide_eq_true c42
  clear c42
  by_cases c43 : (ji41) < (t530.length : Int)
  rotate_left
  ·rw [if_neg c43] at H
   exact absurd H (by simp)
  rw [if_pos c43] at H
  have c43b0 : decide ((ji41) < (t530.length : Int)) = true := decide_eq_true c43
  clear c43
  by_cases c44 : 0 ≤ (rd t530 (ji41))
  rotate_left
  ·rw [if_neg c44] at H
   exact absurd H (by simp)
  rw [if_pos c44] at H
  have c44b0 : decide (0 ≤ (rd t530 (ji41))) = true := decide_eq_true c44
  clear c44
  by_cases c45 : (rd t530 (ji41)) < (t527.length : Int)
  rotate_left
  ·rw [if_neg c45] at H
   exact absurd H (by simp)
  rw [if_pos c45] at H
  have c45b0 : decide ((rd t530 (ji41)) < (t527.length : Int)) = true := decide_eq_true c45
  clear c45
  replace H := Option.bind_eq_some_iff.mp H
  obtain ⟨t543, A460, H⟩ := H
  have A46 := ak A460
  clear A460
  have H' := ak H
  clear H
  try go_wp2
  replace HO_4 := ak (Kd.R_drew HO_4.out)
  replace HO_534001 := ak (Kd.R_drew HO_534001.out)
  replace BK533 := ak (blk_drew BK533.out)
  replace HB := ak (below_drew1 HB.out)
  obtain ⟨Ao48, co48, eo48⟩ := Kd.R_slice HO_4.out
  (subst eo48)
  have p539 : 0 ≤ (0 : Int) := (by omega)
  have q539 : 0 < (t530.length : Int) := oT (by (with_reducible assumption))
  obtain ⟨ad539, e539, hx539_0⟩ := Kd.at_int (Kd.R_reads' HO_4.out).2.2 0 p539 q539
  cases e539
  have qi539 : (0 < t530.length) = True := eq_true (by omega)
  (try rw [show ((0 : Int)).toNat = 0 from rfl] at hx539_0)
  (try rw [Addr.add_zero'] at hx539_0)
  replace p539 := eq_true p539
  replace q539 := eq_true q539
  have p540 : 0 ≤ ((rd t530 0) : Int) := oT (by (with_reducible assumption))
  have q540 : (rd t530 0) < (t527.length : Int) := oT (by (with_reducible assumption))
  obtain ⟨ad540, e540, hx540_0, hx540_1, hx540_2, hx540_3, hx540_4⟩ := at_T33 (Kd.R_reads' HO_534001.out).2.2 (rd t530 0) p540 q540
  cases e540
  replace p540 := eq_true p540
  replace q540 := eq_true q540
  have p541 : 0 ≤ ((ji41) : Int) := oT (by (with_reducible assumption))
  have q541 : (ji41) < (t530.length : Int) := oT (by (with_reducible assumption))
  obtain ⟨ad541, e541, hx541_0⟩ := Kd.at_int (Kd.R_reads' HO_4.out).2.2 (ji41) p541 q541
  obtain rfl : ad539 = ad541 := (by injection e541)
  replace p541 := eq_true p541
  replace q541 := eq_true q541
  have p542 : 0 ≤ ((rd t530 (ji41)) : Int) := oT (by (with_reducible assumption))
  have q542 : (rd t530 (ji41)) < (t527.length : Int) := oT (by (with_reducible assumption))
  obtain ⟨ad542, e542, hx542_0, hx542_1, hx542_2, hx542_3, hx542_4⟩ := at_T33 (Kd.R_reads' HO_534001.out).2.2 (rd t530 (ji41)) p542 q542
  obtain rfl : ad540 = ad542 := (by injection e542)
  replace p542 := eq_true p542
  replace q542 := eq_true q542
  refine start_ (n := 22) (S := fun w' => w'.cell? ⟨gb533, 0, none⟩ = some (.int .i64 t526) ∧ w'.cell? ⟨gb533, 1, none⟩ = some (.slice (some ad540) t527.length co8) ∧ w'.cell? ad539 = some (.int .i64 (rd t530 0)) ∧ w'.cell? (ad540.add (((rd t530 0)).toNat * 5)) = some (.int .i64 ((rd_T33 t527 (rd t530 0)).f0)) ∧ w'.cell? ⟨(ad540.add (((rd t530 0)).toNat * 5)).block, (ad540.add (((rd t530 0)).toNat * 5)).off + 1, none⟩ = some (.int .i64 ((rd_T33 t527 (rd t530 0)).f1)) ∧ w'.cell? ⟨(ad540.add (((rd t530 0)).toNat * 5)).block, (ad540.add (((rd t530 0)).toNat * 5)).off + 2, none⟩ = some (.int .i64 ((rd_T33 t527 (rd t530 0)).f2)) ∧ w'.cell? ⟨(ad540.add (((rd t530 0)).toNat * 5)).block, (ad540.add (((rd t530 0)).toNat * 5)).off + 3, none⟩ = some (.int .i64 ((rd_T33 t527 (rd t530 0)).f3)) ∧ w'.cell? ⟨(ad540.add (((rd t530 0)).toNat * 5)).block, (ad540.add (((rd t530 0)).toNat * 5)).off + 4, none⟩ = some (.int .i64 ((rd_T33 t527 (rd t530 0)).f4)) ∧ w'.cell? (ad539.add ((ji41)).toNat) = some (.int .i64 (rd t530 (ji41))) ∧ w'.cell? (ad540.add (((rd t530 (ji41))).toNat * 5)) = some (.int .i64 ((rd_T33 t527 (rd t530 (ji41))).f0)) ∧ w'.cell? ⟨(ad540.add (((rd t530 (ji41))).toNat * 5)).block, (ad540.add (((rd t530 (ji41))).toNat * 5)).off + 1, none⟩ = some (.int .i64 ((rd_T33 t527 (rd t530 (ji41))).f1)) ∧ w'.cell? ⟨(ad540.add (((rd t530 (ji41))).toNat * 5)).block, (ad540.add (((rd t530 (ji41))).toNat * 5)).off + 2, none⟩ = some (.int .i64 ((rd_T33 t527 (rd t530 (ji41))).f2)) ∧ w'.cell? ⟨(ad540.add (((rd t530 (ji41))).toNat * 5)).block, (ad540.add (((rd t530 (ji41))).toNat * 5)).off + 3, none⟩ = some (.int .i64 ((rd_T33 t527 (rd t530 (ji41))).f3)) ∧ w'.cell? ⟨(ad540.add (((rd t530 (ji41))).toNat * 5)).block, (ad540.add (((rd t530 (ji41))).toNat * 5)).off + 4, none⟩ = some (.int .i64 ((rd_T33 t527 (rd t530 (ji41))).f4))) (ds := []) (ms 22 0) (by kernel_rfl) rfl (by kernel_rfl) ⟨(blk_cell BK533.out 0).trans rfl, (blk_cell BK533.out 1).trans rfl, hx539_0, hx540_0, hx540_1, hx540_2, hx540_3, hx540_4, hx541_0, hx542_0, hx542_1, hx542_2, hx542_3, hx542_4⟩ (fun hHeld => ?_); refine with_tabW laws_FnPairWalk.tab6 laws_FnPairWalk.bits6 (fun HT_ HW_ => ?_)
  generalize wc.drew = w47 at HO_4 HO_534001 BK533 HB hx539_0 hx540_0 hx540_1 hx540_2 hx540_3 hx540_4 hx541_0 hx542_0 hx542_1 hx542_2 hx542_3 hx542_4 hHeld ⊢
  refine pu 1 41 ?_ (ms 22 2) rfl rfl HT_ (by kernel_rfl) (fun _ _ _ h => h) (by rfl) ?_ ?_ ?_ ?_
  rotate_left
  ·intro w'
   go_simp
   with_reducible rfl
  rotate_left
  ·simp only [SX]
   rfl
  refine pu 3 43 ?_ (ms 22 10) rfl rfl HT_ (by kernel_rfl) (fun _ _ _ h => h) (by rfl) ?_ ?_ ?_ ?_
  rotate_left
  ·intro w'
   go_simp
   with_reducible rfl
  rotate_left
  ·simp only [SX]
   rfl
  refine pu 4 44 ?_ (ms 22 26) rfl rfl HT_ (by kernel_rfl) (fun _ _ _ h => h) (by rfl) ?_ ?_ ?_ ?_
  rotate_left
  ·intro w'
   go_simp
   with_reducible rfl
  rotate_left
  ·simp only [SX]
   rfl
  refine pu 9 49 ?_ (ms 22 538) rfl rfl HT_ (by kernel_rfl) (fun _ _ _ h => h) (by rfl) ?_ ?_ ?_ ?_
  rotate_left
  ·intro w'
   go_simp
   with_reducible rfl
  rotate_left
  ·simp only [SX]
   rfl
  refine pu 11 51 ?_ (ms 22 2586) rfl rfl HT_ (by kernel_rfl) (fun _ _ _ h => h) (by rfl) ?_ ?_ ?_ ?_
  rotate_left
  ·intro w'
   go_simp
   with_reducible rfl
  rotate_left
  ·simp only [SX]
   rfl
  refine pu 12 52 ?_ (ms 22 6682) rfl rfl HT_ (by kernel_rfl) (fun _ _ _ h => h) (by rfl) ?_ ?_ ?_ ?_
  rotate_left
  ·intro w'
   go_simp
   with_reducible rfl
  rotate_left
  ·simp only [SX]
   rfl
  refine pu 13 53 ?_ (ms 22 14874) rfl rfl HT_ (by kernel_rfl) (fun _ _ _ h => h) (by rfl) ?_ ?_ ?_ ?_
  rotate_left
  ·intro w'
   go_simp
   with_reducible rfl
  rotate_left
  ·simp only [SX]
   rfl
  refine pu 14 54 ?_ (ms 22 31258) rfl rfl HT_ (by kernel_rfl) (fun _ _ _ h => h) (by rfl) ?_ ?_ ?_ ?_
  rotate_left
  ·intro w'
   go_simp
   with_reducible rfl
  rotate_left
  ·simp only [SX]
   rfl
  refine pu 15 55 ?_ (ms 22 64026) rfl rfl HT_ (by kernel_rfl) (fun _ _ _ h => h) (by rfl) ?_ ?_ ?_ ?_
  rotate_left
  ·intro w'
   go_simp
   with_reducible rfl
  rotate_left
  ·simp only [SX]
   rfl
  refine tk 0 40 ?_ (ms 22 64027) rfl rfl HT_ HW_ (by kernel_rfl) (fun _ _ _ h => h) (by rfl) ?_ hHeld ?_ ?_ ?_
  rotate_left
  ·rintro w' ⟨s0, s1, s2, s3, s4, s5, s6, s7, s8, s9, s10, s11, s12, s13⟩
   go_simp
   with_reducible rfl
  rotate_left
  ·simp only [SX]
   rfl
  refine tk 2 42 ?_ (ms 22 64031) rfl rfl HT_ HW_ (by kernel_rfl) (fun _ _ _ h => h) (by rfl) ?_ hHeld ?_ ?_ ?_
  rotate_left
  ·rintro w' ⟨s0, s1, s2, s3, s4, s5, s6, s7, s8, s9, s10, s11, s12, s13⟩
   go_simp
   with_reducible rfl
  rotate_left
  ·simp only [SX]
   rfl
  refine tk 5 45 ?_ (ms 22 64063) rfl rfl HT_ HW_ (by kernel_rfl) (fun _ _ _ h => h) (by rfl) ?_ hHeld ?_ ?_ ?_
  rotate_left
  ·rintro w' ⟨s0, s1, s2, s3, s4, s5, s6, s7, s8, s9, s10, s11, s12, s13⟩
   go_simp
   with_reducible rfl
  rotate_left
  ·simp only [SX]
   rfl
  refine pu 6 46 ?_ (ms 22 64127) rfl rfl HT_ (by kernel_rfl) (fun _ _ _ h => h) (by rfl) ?_ ?_ ?_ ?_
  rotate_left
  ·intro w'
   go_simp
   with_reducible rfl
  rotate_left
  ·simp only [SX]
   rfl
  refine pu 7 47 ?_ (ms 22 64255) rfl rfl HT_ (by kernel_rfl) (fun _ _ _ h => h) (by rfl) ?_ ?_ ?_ ?_
  rotate_left
  ·intro w'
   go_simp
   with_reducible rfl
  rotate_left
  ·simp only [SX]
   rfl
  refine tk 8 48 ?_ (ms 22 64511) rfl rfl HT_ HW_ (by kernel_rfl) (fun _ _ _ h => h) (by rfl) ?_ hHeld ?_ ?_ ?_
  rotate_left
  ·rintro w' ⟨s0, s1, s2, s3, s4, s5, s6, s7, s8, s9, s10, s11, s12, s13⟩
   go_simp
   with_reducible rfl
  rotate_left
  ·simp only [SX]
   rfl
  refine tk 10 50 ?_ (ms 22 65535) rfl rfl HT_ HW_ (by kernel_rfl) (fun _ _ _ h => h) (by rfl) ?_ hHeld ?_ ?_ ?_
  rotate_left
  ·rintro w' ⟨s0, s1, s2, s3, s4, s5, s6, s7, s8, s9, s10, s11, s12, s13⟩
   go_simp
   with_reducible rfl
  rotate_left
  ·simp only [SX]
   rfl
  refine tk 16 56 ?_ (ms 22 131071) rfl rfl HT_ HW_ (by kernel_rfl) (fun _ _ _ h => h) (by rfl) ?_ hHeld ?_ ?_ ?_
  rotate_left
  ·rintro w' ⟨s0, s1, s2, s3, s4, s5, s6, s7, s8, s9, s10, s11, s12, s13⟩
   go_simp
   with_reducible rfl
  rotate_left
  ·simp only [SX]
   rfl
  refine pu 17 57 ?_ (ms 22 262143) rfl rfl HT_ (by kernel_rfl) (fun _ _ _ h => h) (by rfl) ?_ ?_ ?_ ?_
  rotate_left
  ·intro w'
   go_simp
   with_reducible rfl
  rotate_left
  ·simp only [SX]
   rfl
  refine pu 18 58 ?_ (ms 22 524287) rfl rfl HT_ (by kernel_rfl) (fun _ _ _ h => h) (by rfl) ?_ ?_ ?_ ?_
  rotate_left
  ·intro w'
   go_simp
   with_reducible rfl
  rotate_left
  ·simp only [SX]
   rfl
  refine tk 19 59 ?_ (ms 22 1048575) rfl rfl HT_ HW_ (by kernel_rfl) (fun _ _ _ h => h) (by rfl) ?_ hHeld ?_ ?_ ?_
  rotate_left
  ·rintro w' ⟨s0, s1, s2, s3, s4, s5, s6, s7, s8, s9, s10, s11, s12, s13⟩
   go_simp
   with_reducible rfl
  rotate_left
  ·simp only [SX]
   rfl
  refine one_ (i := 20) (N := some 60) (ms 22 2097151) rfl rfl (one_of HT_.out (by kernel_rfl)) (by decide) (fun K hK => ?_)
  refine goes_ Try.func14 (by kernel_rfl) rfl #[.agg #[.int .i64 t526, .slice (some ad540) t527.length co8], .int .i64 ((rd_T33 t527 (rd t530 0)).f0), .int .i64 ((rd_T33 t527 (rd t530 (ji41))).f1)] (by rfl) rfl rfl (by (try simp only [List.map_toArray, List.map_cons, List.map_nil]); rfl) ?_
  with_reducible refine (impl_PairAll.calls kj3 t526 _ _ t527 ((rd_T33 t527 (rd t530 0)).f0) ((rd_T33 t527 (rd t530 (ji41))).f1) t543 _ ?side1 ?side2 A46.out).mono ?_
  (case side1 => repeat (exact (Kd.R_reads' HO_534001.out).2.2))
  (case side2 => exact (Kd.R_reads' HO_534001.out).2.1)
  rintro e w49 ⟨v544, rfl, ho0, hb⟩
  have HS2_ := (hb.cell (World.block_lt_of_cell? _ _ (hHeld.2.2.1))).trans (hHeld.2.2.1)
  have HS3_ := (hb.cell (World.block_lt_of_cell? _ _ (hHeld.2.2.2.1))).trans (hHeld.2.2.2.1)
  have HS4_ := (hb.cell (World.block_lt_of_cell? _ _ (hHeld.2.2.2.2.1))).trans (hHeld.2.2.2.2.1)
  have HS5_ := (hb.cell (World.block_lt_of_cell? _ _ (hHeld.2.2.2.2.2.1))).trans (hHeld.2.2.2.2.2.1)
  have HS6_ := (hb.cell (World.block_lt_of_cell? _ _ (hHeld.2.2.2.2.2.2.1))).trans (hHeld.2.2.2.2.2.2.1)
  have HS7_ := (hb.cell (World.block_lt_of_cell? _ _ (hHeld.2.2.2.2.2.2.2.1))).trans (hHeld.2.2.2.2.2.2.2.1)
  have HS8_ := (hb.cell (World.block_lt_of_cell? _ _ (hHeld.2.2.2.2.2.2.2.2.1))).trans (hHeld.2.2.2.2.2.2.2.2.1)
  have HS9_ := (hb.cell (World.block_lt_of_cell? _ _ (hHeld.2.2.2.2.2.2.2.2.2.1))).trans (hHeld.2.2.2.2.2.2.2.2.2.1)
  have HS10_ := (hb.cell (World.block_lt_of_cell? _ _ (hHeld.2.2.2.2.2.2.2.2.2.2.1))).trans (hHeld.2.2.2.2.2.2.2.2.2.2.1)
  have HS11_ := (hb.cell (World.block_lt_of_cell? _ _ (hHeld.2.2.2.2.2.2.2.2.2.2.2.1))).trans (hHeld.2.2.2.2.2.2.2.2.2.2.2.1)
  have HS12_ := (hb.cell (World.block_lt_of_cell? _ _ (hHeld.2.2.2.2.2.2.2.2.2.2.2.2.1))).trans (hHeld.2.2.2.2.2.2.2.2.2.2.2.2.1)
  have HS13_ := (hb.cell (World.block_lt_of_cell? _ _ (hHeld.2.2.2.2.2.2.2.2.2.2.2.2.2))).trans (hHeld.2.2.2.2.2.2.2.2.2.2.2.2.2)
  refine ⟨_, rfl, ?_⟩
  replace HO_4 := ak (Kd.R_below (rk HO_4) hb)
  replace HO_534001 := ak (Kd.R_below (rk HO_534001) hb)
  have HO545 := ak (Kd.R_lower ho0 (below_size (bl1 HB GE533)))
  replace BK533 := ak (blk_below (bk BK533) hb)
  replace HB := ak (below_step (bl1 HB GE533) hb)
  (try clear hb)
  (try clear hb2)
  (try clear hk)
  (try clear hi)
  (try clear ho0)
  refine hK.out _ _ ⟨(blk_cell BK533.out 0).trans rfl, (blk_cell BK533.out 1).trans rfl, HS2_, HS3_, HS4_, HS5_, HS6_, HS7_, HS8_, HS9_, HS10_, HS11_, HS12_, HS13_⟩ (fun hHeld => ?_)
  clear hK K
  refine norm_ (a' := ?_) ?_ ?_
  rotate_left
  ·show Act.put _ (some 60) _ = _
   simp only [SX]
   rfl
  refine pu 21 5 ?_ (ms 22 4194303) rfl rfl HT_ (by kernel_rfl) (fun _ _ _ h => h) (by rfl) ?_ ?_ ?_ ?_
  rotate_left
  ·intro w'
   go_simp
   with_reducible rfl
  rotate_left
  ·simp only [SX]
   rfl
  refine done_ (done_of HT_.out (by kernel_rfl)) ?_
  try go_wp2
  go_loopg [6] kj3 (fun kq v6 w' => ∃ (x6_2 : Int), v6 = .int .i64 x6_2 ∧ Aside0 (laws_FnPairWalk.l0 kq t530 t543 x6_2 t526 t527 = some r) ∧ Aside0 (kq ≤ kj3) ∧ Aside0 (Kd.R (Kd.int .i64) 3 w' w.heap.size (fun _ => True) (.slice (some ad539) t530.length co48) t530) ∧ Aside0 (Kd.R k35 35 w' w.heap.size (fun _ => True) v544 t543) ∧ Aside0 (Kd.R k33 33 w' w.heap.size (fun _ => True) (.slice (some ad540) t527.length co8) t527) ∧ Aside0 (w'.heap[gb533]? = some (.cells #[.int .i64 t526, (.slice (some ad540) t527.length co8)] 25 (0, 0))) ∧ Aside0 (Below w.heap.size w w'))
  case atStart => exact ⟨(0), (by rfl), H', ⟨Nat.le_refl _⟩, ⟨rk HO_4⟩, ⟨rk HO545⟩, ⟨rk HO_534001⟩, ⟨bk BK533⟩, ⟨bl1 HB GE533⟩⟩
  clear H'
  try clear c1
  try clear p2
  try clear c3
  try clear c4
  try clear p5
  try clear q5
  try clear hx5
  try clear qi5
  try clear p6
  try clear c11
  try clear c11b0
  try clear c11b1
  try clear c11b2
  try clear c12
  try clear c13
  try clear c14
  try clear c18
  try clear c31
  try clear c38
  try clear c38b0
  try clear c38b1
  try clear c39
  try clear c39b0
  try clear c40
  try clear c40b0
  try clear c42
  try clear c42b0
  try clear c43
  try clear c43b0
  try clear c44
  try clear c44b0
  try clear c45
  try clear c45b0
  try clear hx539_0
  try clear hx540_0
  try clear hx540_1
  try clear hx540_2
  try clear hx540_3
  try clear hx540_4
  try clear hx541_0
  try clear hx542_0
  try clear hx542_1
  try clear hx542_2
  try clear hx542_3
  try clear hx542_4
  try clear p2
  try clear p539
  try clear p540
  try clear p541
  try clear p542
  try clear q539
  try clear q540
  try clear q541
  try clear q542
  obtain ⟨x6_2, rfl, HA, HK2, HO_4, HO_5, HO_534001, BK533, HB⟩ := hrel
  cases gk with
  | zero => exact absurd HA.out (by simp [laws_FnPairWalk.l0])
  | succ k2 =>
   have H := HA.out
   clear HA
   simp only [laws_FnPairWalk.l0] at H
   by_cases c50 : x6_2 < (t543.length : Int)
   rotate_left
   ·rw [if_neg c50] at H
    have c50b0 : decide (x6_2 < (t543.length : Int)) = false := decide_eq_false c50
    clear c50
    exact absurd ((Option.some.inj H).trans hr_) Bool.false_ne_true
   rw [if_pos c50] at H
   have c50b0 : decide (x6_2 < (t543.length : Int)) = true := decide_eq_true c50
   clear c50
   by_cases c51 : 0 ≤ x6_2
   rotate_left
   ·rw [if_neg c51] at H
    exact absurd H (by simp)
   rw [if_pos c51] at H
   have c51b0 : decide (0 ≤ x6_2) = true := decide_eq_true c51
   clear c51
   replace H := Option.bind_eq_some_iff.mp H
   obtain ⟨t547, A520, H⟩ := H
   have A52 := ak A520
   clear A520
   by_cases c53 : ((rd_T35 t543 x6_2).f0) ≤ t547
   rotate_left
   ·rw [if_neg c53] at H
    have c53b0 : decide (((rd_T35 t543 x6_2).f0) ≤ t547) = false := decide_eq_false c53
    clear c53
    have H' := ak H
    clear H
    obtain ⟨Ao64, co64, eo64⟩ := Kd.R_slice HO_5.out
    subst eo64
    try go_wp2
    replace HO_4 := ak (Kd.R_drew HO_4.out)
    replace HO_5 := ak (Kd.R_drew HO_5.out)
    replace HO_534001 := ak (Kd.R_drew HO_534001.out)
    replace BK533 := ak (blk_drew BK533.out)
    replace HB := ak (below_drew1 HB.out)
    have p546 : 0 ≤ (x6_2 : Int) := oT (by (with_reducible assumption))
    have q546 : x6_2 < (t543.length : Int) := oT (by (with_reducible assumption))
    obtain ⟨ad546, e546, hx546_0, hx546_1⟩ := at_T35 (Kd.R_reads' HO_5.out).2.2 x6_2 p546 q546
    cases e546
    replace p546 := eq_true p546
    replace q546 := eq_true q546
    refine start_ (n := 20) (S := fun w' => w'.cell? ⟨gb533, 0, none⟩ = some (.int .i64 t526) ∧ w'.cell? ⟨gb533, 1, none⟩ = some (.slice (some ad540) t527.length co8) ∧ w'.cell? (ad546.add ((x6_2).toNat * 2)) = some (.int .i64 ((rd_T35 t543 x6_2).f0)) ∧ w'.cell? ⟨(ad546.add ((x6_2).toNat * 2)).block, (ad546.add ((x6_2).toNat * 2)).off + 1, none⟩ = some (.int .i64 ((rd_T35 t543 x6_2).f1))) (ds := []) (ms 20 0) (by kernel_rfl) rfl (by kernel_rfl) ⟨(blk_cell BK533.out 0).trans rfl, (blk_cell BK533.out 1).trans rfl, hx546_0, hx546_1⟩ (fun hHeld => ?_); refine with_tabW laws_FnPairWalk.tab10 laws_FnPairWalk.bits10 (fun HT_ HW_ => ?_)
    generalize wr.drew = w65 at HO_4 HO_5 HO_534001 BK533 HB hx546_0 hx546_1 hHeld ⊢
    refine pu 0 67 ?_ (ms 20 1) rfl rfl HT_ (by kernel_rfl) (fun _ _ _ h => h) (by rfl) ?_ ?_ ?_ ?_
    rotate_left
    ·intro w'
     go_simp
     with_reducible rfl
    rotate_left
    ·simp only [SX]
     rfl
    refine pu 1 68 ?_ (ms 20 3) rfl rfl HT_ (by kernel_rfl) (fun _ _ _ h => h) (by rfl) ?_ ?_ ?_ ?_
    rotate_left
    ·intro w'
     go_simp
     with_reducible rfl
    rotate_left
    ·simp only [SX]
     rfl
    refine pu 2 69 ?_ (ms 20 7) rfl rfl HT_ (by kernel_rfl) (fun _ _ _ h => h) (by rfl) ?_ ?_ ?_ ?_
    rotate_left
    ·intro w'
     go_simp
     with_reducible rfl
    rotate_left
    ·simp only [SX]
     rfl
    refine pu 3 70 ?_ (ms 20 15) rfl rfl HT_ (by kernel_rfl) (fun _ _ _ h => h) (by rfl) ?_ ?_ ?_ ?_
    rotate_left
    ·intro w'
     go_simp
     with_reducible rfl
    rotate_left
    ·simp only [SX]
     rfl
    refine pu 6 73 ?_ (ms 20 79) rfl rfl HT_ (by kernel_rfl) (fun _ _ _ h => h) (by rfl) ?_ ?_ ?_ ?_
    rotate_left
    ·intro w'
     go_simp
     with_reducible rfl
    rotate_left
    ·simp only [SX]
     rfl
    refine tk 4 71 ?_ (ms 20 95) rfl rfl HT_ HW_ (by kernel_rfl) (fun _ _ _ h => h) (by rfl) ?_ hHeld ?_ ?_ ?_
    rotate_left
    ·rintro w' ⟨s0, s1, s2, s3⟩
     go_simp
     with_reducible rfl
    rotate_left
    ·simp only [SX]
     rfl
    refine tk 5 72 ?_ (ms 20 127) rfl rfl HT_ HW_ (by kernel_rfl) (fun _ _ _ h => h) (by rfl) ?_ hHeld ?_ ?_ ?_
    rotate_left
    ·rintro w' ⟨s0, s1, s2, s3⟩
     go_simp
     with_reducible rfl
    rotate_left
    ·simp only [SX]
     rfl
    refine one_ (i := 7) (N := some 74) (ms 20 255) rfl rfl (one_of HT_.out (by kernel_rfl)) (by decide) (fun K hK => ?_)
    refine goes_ Try.func15 (by kernel_rfl) rfl #[.agg #[.int .i64 t526, .slice (some ad540) t527.length co8], .slice (some ad539) t530.length co48] (by rfl) rfl rfl (by (try simp only [List.map_toArray, List.map_cons, List.map_nil]); rfl) ?_
    with_reducible refine (impl_WalkCost.calls k2 t526 _ _ t527 _ _ t530 t547 _ ?side1 ?side2 ?side3 ?side4 A52.out).mono ?_
    (case side1 => repeat (exact (Kd.R_reads' HO_534001.out).2.2))
    (case side2 => exact (Kd.R_reads' HO_534001.out).2.1)
    (case side3 => repeat (exact (Kd.R_reads' HO_4.out).2.2))
    (case side4 => exact (Kd.R_reads' HO_4.out).2.1)
    rintro e w66 ⟨rfl, hb⟩
    have HS2_ := (hb.cell (World.block_lt_of_cell? _ _ (hHeld.2.2.1))).trans (hHeld.2.2.1)
    have HS3_ := (hb.cell (World.block_lt_of_cell? _ _ (hHeld.2.2.2))).trans (hHeld.2.2.2)
    refine ⟨_, rfl, ?_⟩
    replace HO_4 := ak (Kd.R_below (rk HO_4) hb)
    replace HO_5 := ak (Kd.R_below (rk HO_5) hb)
    replace HO_534001 := ak (Kd.R_below (rk HO_534001) hb)
    replace BK533 := ak (blk_below (bk BK533) hb)
    replace HB := ak (below_step (bl1 HB GE533) hb)
    (try clear hb)
    (try clear hb2)
    (try clear hk)
    (try clear hi)
    refine hK.out _ _ ⟨(blk_cell BK533.out 0).trans rfl, (blk_cell BK533.out 1).trans rfl, HS2_, HS3_⟩ (fun hHeld => ?_)
    clear hK K
    refine norm_ (a' := ?_) ?_ ?_
    rotate_left
    ·show Act.put _ (some 74) _ = _
     simp only [SX]
     rfl
    refine pu 8 75 ?_ (ms 20 511) rfl rfl HT_ (by kernel_rfl) (fun _ _ _ h => h) (by rfl) ?_ ?_ ?_ ?_
    rotate_left
    ·intro w'
     go_simp
     with_reducible rfl
    rotate_left
    ·simp only [SX]
     rfl
    refine pu 9 76 ?_ (ms 20 1023) rfl rfl HT_ (by kernel_rfl) (fun _ _ _ h => h) (by rfl) ?_ ?_ ?_ ?_
    rotate_left
    ·intro w'
     go_simp
     with_reducible rfl
    rotate_left
    ·simp only [SX]
     rfl
    refine pure_ (i := 10) (N := some 77) (v := undef) (a' := ?_) (ms 20 2047) rfl rfl (any_of HT_.out (by kernel_rfl)) (fun _ _ _ h => h) (Or.inr ⟨by rfl, rfl⟩) ?_ ?_
    rotate_left
    ·simp only [SX]
     rfl
    refine pure_ (i := 11) (N := some 78) (v := undef) (a' := ?_) (ms 20 4095) rfl rfl (any_of HT_.out (by kernel_rfl)) (fun _ _ _ h => h) (Or.inr ⟨by rfl, rfl⟩) ?_ ?_
    rotate_left
    ·simp only [SX]
     rfl
    refine pure_ (i := 12) (N := some 79) (v := undef) (a' := ?_) (ms 20 8191) rfl rfl (any_of HT_.out (by kernel_rfl)) (fun _ _ _ h => h) (Or.inr ⟨by rfl, rfl⟩) ?_ ?_
    rotate_left
    ·simp only [SX]
     rfl
    refine pure_ (i := 13) (N := some 80) (v := undef) (a' := ?_) (ms 20 16383) rfl rfl (any_of HT_.out (by kernel_rfl)) (fun _ _ _ h => h) (Or.inr ⟨by rfl, rfl⟩) ?_ ?_
    rotate_left
    ·simp only [SX]
     rfl
    refine pure_ (i := 14) (N := some 81) (v := undef) (a' := ?_) (ms 20 32767) rfl rfl (any_of HT_.out (by kernel_rfl)) (fun _ _ _ h => h) (Or.inr ⟨by rfl, rfl⟩) ?_ ?_
    rotate_left
    ·simp only [SX]
     rfl
    refine pure_ (i := 15) (N := some 82) (v := undef) (a' := ?_) (ms 20 65535) rfl rfl (any_of HT_.out (by kernel_rfl)) (fun _ _ _ h => h) (Or.inr ⟨by rfl, rfl⟩) ?_ ?_
    rotate_left
    ·simp only [SX]
     rfl
    refine pure_ (i := 16) (N := some 83) (v := undef) (a' := ?_) (ms 20 131071) rfl rfl (any_of HT_.out (by kernel_rfl)) (fun _ _ _ h => h) (Or.inr ⟨by rfl, rfl⟩) ?_ ?_
    rotate_left
    ·simp only [SX]
     rfl
    refine pure_ (i := 17) (N := some 84) (v := undef) (a' := ?_) (ms 20 262143) rfl rfl (any_of HT_.out (by kernel_rfl)) (fun _ _ _ h => h) (Or.inr ⟨by rfl, rfl⟩) ?_ ?_
    rotate_left
    ·simp only [SX]
     rfl
    refine pure_ (i := 18) (N := some 85) (v := undef) (a' := ?_) (ms 20 524287) rfl rfl (any_of HT_.out (by kernel_rfl)) (fun _ _ _ h => h) (Or.inr ⟨by rfl, rfl⟩) ?_ ?_
    rotate_left
    ·simp only [SX]
     rfl
    refine pu 19 86 ?_ (ms 20 1048575) rfl rfl HT_ (by kernel_rfl) (fun _ _ _ h => h) (by rfl) ?_ ?_ ?_ ?_
    rotate_left
    ·intro w'
     go_simp
     with_reducible rfl
    rotate_left
    ·simp only [SX]
     rfl
    refine done_ (done_of HT_.out (by kernel_rfl)) ?_
    try go_wp2
    go_roundg k2
    case measure => have := HJ3.out; have := HK2.out; omega
    case rel => exact ⟨(wrap64 (x6_2 + 1)), (by rfl), H', ⟨by have := HJ3.out; have := HK2.out; omega⟩, ⟨rk HO_4⟩, ⟨rk HO_5⟩, ⟨rk HO_534001⟩, ⟨bk BK533⟩, ⟨bl1 HB GE533⟩⟩
   rw [if_pos c53] at H
   have c53b0 : decide (((rd_T35 t543 x6_2).f0) ≤ t547) = true := decide_eq_true c53
   clear c53
   replace H := Option.bind_eq_some_iff.mp H
   obtain ⟨t549, A540, H⟩ := H
   have A54 := ak A540
   clear A540
   by_cases c55 : ((rd_T35 t543 x6_2).f1) ≤ t549
   ·rw [if_pos c55] at H
    have c55b0 : decide (((rd_T35 t543 x6_2).f1) ≤ t549) = true := decide_eq_true c55
    clear c55
    obtain rfl := Option.some.inj H
    obtain ⟨Ao56, co56, eo56⟩ := Kd.R_slice HO_5.out
    subst eo56
    try go_wp2
    replace HO_4 := ak (Kd.R_drew HO_4.out)
    replace HO_5 := ak (Kd.R_drew HO_5.out)
    replace HO_534001 := ak (Kd.R_drew HO_534001.out)
    replace BK533 := ak (blk_drew BK533.out)
    replace HB := ak (below_drew1 HB.out)
    have p546 : 0 ≤ (x6_2 : Int) := oT (by (with_reducible assumption))
    have q546 : x6_2 < (t543.length : Int) := oT (by (with_reducible assumption))
    obtain ⟨ad546, e546, hx546_0, hx546_1⟩ := at_T35 (Kd.R_reads' HO_5.out).2.2 x6_2 p546 q546
    cases e546
    replace p546 := eq_true p546
    replace q546 := eq_true q546
    have p548 : 0 ≤ (x6_2 : Int) := oT (by (with_reducible assumption))
    have q548 : x6_2 < (t543.length : Int) := oT (by (with_reducible assumption))
    obtain ⟨ad548, e548, hx548_0, hx548_1⟩ := at_T35 (Kd.R_reads' HO_5.out).2.2 x6_2 p548 q548
    obtain rfl : ad546 = ad548 := (by injection e548)
    replace p548 := eq_true p548
    replace q548 := eq_true q548
    refine start_ (n := 20) (S := fun w' => w'.cell? ⟨gb533, 0, none⟩ = some (.int .i64 t526) ∧ w'.cell? ⟨gb533, 1, none⟩ = some (.slice (some ad540) t527.length co8) ∧ w'.cell? (ad546.add ((x6_2).toNat * 2)) = some (.int .i64 ((rd_T35 t543 x6_2).f0)) ∧ w'.cell? ⟨(ad546.add ((x6_2).toNat * 2)).block, (ad546.add ((x6_2).toNat * 2)).off + 1, none⟩ = some (.int .i64 ((rd_T35 t543 x6_2).f1)) ∧ w'.cell? (ad546.add ((x6_2).toNat * 2)) = some (.int .i64 ((rd_T35 t543 x6_2).f0)) ∧ w'.cell? ⟨(ad546.add ((x6_2).toNat * 2)).block, (ad546.add ((x6_2).toNat * 2)).off + 1, none⟩ = some (.int .i64 ((rd_T35 t543 x6_2).f1))) (ds := []) (ms 20 0) (by kernel_rfl) rfl (by kernel_rfl) ⟨(blk_cell BK533.out 0).trans rfl, (blk_cell BK533.out 1).trans rfl, hx546_0, hx546_1, hx548_0, hx548_1⟩ (fun hHeld => ?_); refine with_tabW laws_FnPairWalk.tab10 laws_FnPairWalk.bits10 (fun HT_ HW_ => ?_)
    generalize wr.drew = w57 at HO_4 HO_5 HO_534001 BK533 HB hx546_0 hx546_1 hx548_0 hx548_1 hHeld ⊢
    refine pu 0 67 ?_ (ms 20 1) rfl rfl HT_ (by kernel_rfl) (fun _ _ _ h => h) (by rfl) ?_ ?_ ?_ ?_
    rotate_left
    ·intro w'
     go_simp
     with_reducible rfl
    rotate_left
    ·simp only [SX]
     rfl
    refine pu 1 68 ?_ (ms 20 3) rfl rfl HT_ (by kernel_rfl) (fun _ _ _ h => h) (by rfl) ?_ ?_ ?_ ?_
    rotate_left
    ·intro w'
     go_simp
     with_reducible rfl
    rotate_left
    ·simp only [SX]
     rfl
    refine pu 2 69 ?_ (ms 20 7) rfl rfl HT_ (by kernel_rfl) (fun _ _ _ h => h) (by rfl) ?_ ?_ ?_ ?_
    rotate_left
    ·intro w'
     go_simp
     with_reducible rfl
    rotate_left
    ·simp only [SX]
     rfl
    refine pu 3 70 ?_ (ms 20 15) rfl rfl HT_ (by kernel_rfl) (fun _ _ _ h => h) (by rfl) ?_ ?_ ?_ ?_
    rotate_left
    ·intro w'
     go_simp
     with_reducible rfl
    rotate_left
    ·simp only [SX]
     rfl
    refine pu 6 73 ?_ (ms 20 79) rfl rfl HT_ (by kernel_rfl) (fun _ _ _ h => h) (by rfl) ?_ ?_ ?_ ?_
    rotate_left
    ·intro w'
     go_simp
     with_reducible rfl
    rotate_left
    ·simp only [SX]
     rfl
    refine tk 4 71 ?_ (ms 20 95) rfl rfl HT_ HW_ (by kernel_rfl) (fun _ _ _ h => h) (by rfl) ?_ hHeld ?_ ?_ ?_
    rotate_left
    ·rintro w' ⟨s0, s1, s2, s3, s4, s5⟩
     go_simp
     with_reducible rfl
    rotate_left
    ·simp only [SX]
     rfl
    refine tk 5 72 ?_ (ms 20 127) rfl rfl HT_ HW_ (by kernel_rfl) (fun _ _ _ h => h) (by rfl) ?_ hHeld ?_ ?_ ?_
    rotate_left
    ·rintro w' ⟨s0, s1, s2, s3, s4, s5⟩
     go_simp
     with_reducible rfl
    rotate_left
    ·simp only [SX]
     rfl
    refine one_ (i := 7) (N := some 74) (ms 20 255) rfl rfl (one_of HT_.out (by kernel_rfl)) (by decide) (fun K hK => ?_)
    refine goes_ Try.func15 (by kernel_rfl) rfl #[.agg #[.int .i64 t526, .slice (some ad540) t527.length co8], .slice (some ad539) t530.length co48] (by rfl) rfl rfl (by (try simp only [List.map_toArray, List.map_cons, List.map_nil]); rfl) ?_
    with_reducible refine (impl_WalkCost.calls k2 t526 _ _ t527 _ _ t530 t547 _ ?side1 ?side2 ?side3 ?side4 A52.out).mono ?_
    (case side1 => repeat (exact (Kd.R_reads' HO_534001.out).2.2))
    (case side2 => exact (Kd.R_reads' HO_534001.out).2.1)
    (case side3 => repeat (exact (Kd.R_reads' HO_4.out).2.2))
    (case side4 => exact (Kd.R_reads' HO_4.out).2.1)
    rintro e w58 ⟨rfl, hb⟩
    have HS2_ := (hb.cell (World.block_lt_of_cell? _ _ (hHeld.2.2.1))).trans (hHeld.2.2.1)
    have HS3_ := (hb.cell (World.block_lt_of_cell? _ _ (hHeld.2.2.2.1))).trans (hHeld.2.2.2.1)
    have HS4_ := (hb.cell (World.block_lt_of_cell? _ _ (hHeld.2.2.2.2.1))).trans (hHeld.2.2.2.2.1)
    have HS5_ := (hb.cell (World.block_lt_of_cell? _ _ (hHeld.2.2.2.2.2))).trans (hHeld.2.2.2.2.2)
    refine ⟨_, rfl, ?_⟩
    replace HO_4 := ak (Kd.R_below (rk HO_4) hb)
    replace HO_5 := ak (Kd.R_below (rk HO_5) hb)
    replace HO_534001 := ak (Kd.R_below (rk HO_534001) hb)
    replace BK533 := ak (blk_below (bk BK533) hb)
    replace HB := ak (below_step (bl1 HB GE533) hb)
    (try clear hb)
    (try clear hb2)
    (try clear hk)
    (try clear hi)
    refine hK.out _ _ ⟨(blk_cell BK533.out 0).trans rfl, (blk_cell BK533.out 1).trans rfl, HS2_, HS3_, HS4_, HS5_⟩ (fun hHeld => ?_)
    clear hK K
    refine norm_ (a' := ?_) ?_ ?_
    rotate_left
    ·show Act.put _ (some 74) _ = _
     simp only [SX]
     rfl
    refine pu 8 75 ?_ (ms 20 511) rfl rfl HT_ (by kernel_rfl) (fun _ _ _ h => h) (by rfl) ?_ ?_ ?_ ?_
    rotate_left
    ·intro w'
     go_simp
     with_reducible rfl
    rotate_left
    ·simp only [SX]
     rfl
    refine pu 9 76 ?_ (ms 20 1023) rfl rfl HT_ (by kernel_rfl) (fun _ _ _ h => h) (by rfl) ?_ ?_ ?_ ?_
    rotate_left
    ·intro w'
     go_simp
     with_reducible rfl
    rotate_left
    ·simp only [SX]
     rfl
    refine pu 10 77 ?_ (ms 20 2047) rfl rfl HT_ (by kernel_rfl) (fun _ _ _ h => h) (by rfl) ?_ ?_ ?_ ?_
    rotate_left
    ·intro w'
     go_simp
     with_reducible rfl
    rotate_left
    ·simp only [SX]
     rfl
    refine pu 11 78 ?_ (ms 20 4095) rfl rfl HT_ (by kernel_rfl) (fun _ _ _ h => h) (by rfl) ?_ ?_ ?_ ?_
    rotate_left
    ·intro w'
     go_simp
     with_reducible rfl
    rotate_left
    ·simp only [SX]
     rfl
    refine pu 12 79 ?_ (ms 20 8191) rfl rfl HT_ (by kernel_rfl) (fun _ _ _ h => h) (by rfl) ?_ ?_ ?_ ?_
    rotate_left
    ·intro w'
     go_simp
     with_reducible rfl
    rotate_left
    ·simp only [SX]
     rfl
    refine pu 13 80 ?_ (ms 20 16383) rfl rfl HT_ (by kernel_rfl) (fun _ _ _ h => h) (by rfl) ?_ ?_ ?_ ?_
    rotate_left
    ·intro w'
     go_simp
     with_reducible rfl
    rotate_left
    ·simp only [SX]
     rfl
    refine pu 16 83 ?_ (ms 20 81919) rfl rfl HT_ (by kernel_rfl) (fun _ _ _ h => h) (by rfl) ?_ ?_ ?_ ?_
    rotate_left
    ·intro w'
     go_simp
     with_reducible rfl
    rotate_left
    ·simp only [SX]
     rfl
    refine tk 14 81 ?_ (ms 20 98303) rfl rfl HT_ HW_ (by kernel_rfl) (fun _ _ _ h => h) (by rfl) ?_ hHeld ?_ ?_ ?_
    rotate_left
    ·rintro w' ⟨s0, s1, s2, s3, s4, s5⟩
     go_simp
     with_reducible rfl
    rotate_left
    ·simp only [SX]
     rfl
    refine tk 15 82 ?_ (ms 20 131071) rfl rfl HT_ HW_ (by kernel_rfl) (fun _ _ _ h => h) (by rfl) ?_ hHeld ?_ ?_ ?_
    rotate_left
    ·rintro w' ⟨s0, s1, s2, s3, s4, s5⟩
     go_simp
     with_reducible rfl
    rotate_left
    ·simp only [SX]
     rfl
    refine one_ (i := 17) (N := some 84) (ms 20 262143) rfl rfl (one_of HT_.out (by kernel_rfl)) (by decide) (fun K hK => ?_)
    refine goes_ Try.func16 (by kernel_rfl) rfl #[.agg #[.int .i64 t526, .slice (some ad540) t527.length co8], .slice (some ad539) t530.length co48] (by rfl) rfl rfl (by (try simp only [List.map_toArray, List.map_cons, List.map_nil]); rfl) ?_
    with_reducible refine (laws_wkToll.calls k2 t526 _ _ t527 _ _ t530 t549 _ ?side1 ?side2 ?side3 ?side4 A54.out).mono ?_
    (case side1 => repeat (exact (Kd.R_reads' HO_534001.out).2.2))
    (case side2 => exact (Kd.R_reads' HO_534001.out).2.1)
    (case side3 => repeat (exact (Kd.R_reads' HO_4.out).2.2))
    (case side4 => exact (Kd.R_reads' HO_4.out).2.1)
    rintro e w59 ⟨rfl, hb⟩
    have HS2_ := (hb.cell (World.block_lt_of_cell? _ _ (hHeld.2.2.1))).trans (hHeld.2.2.1)
    have HS3_ := (hb.cell (World.block_lt_of_cell? _ _ (hHeld.2.2.2.1))).trans (hHeld.2.2.2.1)
    have HS4_ := (hb.cell (World.block_lt_of_cell? _ _ (hHeld.2.2.2.2.1))).trans (hHeld.2.2.2.2.1)
    have HS5_ := (hb.cell (World.block_lt_of_cell? _ _ (hHeld.2.2.2.2.2))).trans (hHeld.2.2.2.2.2)
    refine ⟨_, rfl, ?_⟩
    replace HO_4 := ak (Kd.R_below (rk HO_4) hb)
    replace HO_5 := ak (Kd.R_below (rk HO_5) hb)
    replace HO_534001 := ak (Kd.R_below (rk HO_534001) hb)
    replace BK533 := ak (blk_below (bk BK533) hb)
    replace HB := ak (below_step (bl1 HB GE533) hb)
    (try clear hb)
    (try clear hb2)
    (try clear hk)
    (try clear hi)
    refine hK.out _ _ ⟨(blk_cell BK533.out 0).trans rfl, (blk_cell BK533.out 1).trans rfl, HS2_, HS3_, HS4_, HS5_⟩ (fun hHeld => ?_)
    clear hK K
    refine norm_ (a' := ?_) ?_ ?_
    rotate_left
    ·show Act.put _ (some 84) _ = _
     simp only [SX]
     rfl
    refine pu 18 85 ?_ (ms 20 524287) rfl rfl HT_ (by kernel_rfl) (fun _ _ _ h => h) (by rfl) ?_ ?_ ?_ ?_
    rotate_left
    ·intro w'
     go_simp
     with_reducible rfl
    rotate_left
    ·simp only [SX]
     rfl
    refine pu 19 86 ?_ (ms 20 1048575) rfl rfl HT_ (by kernel_rfl) (fun _ _ _ h => h) (by rfl) ?_ ?_ ?_ ?_
    rotate_left
    ·intro w'
     go_simp
     with_reducible rfl
    rotate_left
    ·simp only [SX]
     rfl
    refine done_ (done_of HT_.out (by kernel_rfl)) ?_
    try go_wp2
    go_ret
    exact ⟨by rfl, bl1 HB GE533⟩
   rw [if_neg c55] at H
   have c55b0 : decide (((rd_T35 t543 x6_2).f1) ≤ t549) = false := decide_eq_false c55
   clear c55
   have H' := ak H
   clear H
   obtain ⟨Ao60, co60, eo60⟩ := Kd.R_slice HO_5.out
   subst eo60
   try go_wp2
   replace HO_4 := ak (Kd.R_drew HO_4.out)
   replace HO_5 := ak (Kd.R_drew HO_5.out)
   replace HO_534001 := ak (Kd.R_drew HO_534001.out)
   replace BK533 := ak (blk_drew BK533.out)
   replace HB := ak (below_drew1 HB.out)
   have p546 : 0 ≤ (x6_2 : Int) := oT (by (with_reducible assumption))
   have q546 : x6_2 < (t543.length : Int) := oT (by (with_reducible assumption))
   obtain ⟨ad546, e546, hx546_0, hx546_1⟩ := at_T35 (Kd.R_reads' HO_5.out).2.2 x6_2 p546 q546
   cases e546
   replace p546 := eq_true p546
   replace q546 := eq_true q546
   have p548 : 0 ≤ (x6_2 : Int) := oT (by (with_reducible assumption))
   have q548 : x6_2 < (t543.length : Int) := oT (by (with_reducible assumption))
   obtain ⟨ad548, e548, hx548_0, hx548_1⟩ := at_T35 (Kd.R_reads' HO_5.out).2.2 x6_2 p548 q548
   obtain rfl : ad546 = ad548 := (by injection e548)
   replace p548 := eq_true p548
   replace q548 := eq_true q548
   refine start_ (n := 20) (S := fun w' => w'.cell? ⟨gb533, 0, none⟩ = some (.int .i64 t526) ∧ w'.cell? ⟨gb533, 1, none⟩ = some (.slice (some ad540) t527.length co8) ∧ w'.cell? (ad546.add ((x6_2).toNat * 2)) = some (.int .i64 ((rd_T35 t543 x6_2).f0)) ∧ w'.cell? ⟨(ad546.add ((x6_2).toNat * 2)).block, (ad546.add ((x6_2).toNat * 2)).off + 1, none⟩ = some (.int .i64 ((rd_T35 t543 x6_2).f1)) ∧ w'.cell? (ad546.add ((x6_2).toNat * 2)) = some (.int .i64 ((rd_T35 t543 x6_2).f0)) ∧ w'.cell? ⟨(ad546.add ((x6_2).toNat * 2)).block, (ad546.add ((x6_2).toNat * 2)).off + 1, none⟩ = some (.int .i64 ((rd_T35 t543 x6_2).f1))) (ds := []) (ms 20 0) (by kernel_rfl) rfl (by kernel_rfl) ⟨(blk_cell BK533.out 0).trans rfl, (blk_cell BK533.out 1).trans rfl, hx546_0, hx546_1, hx548_0, hx548_1⟩ (fun hHeld => ?_); refine with_tabW laws_FnPairWalk.tab10 laws_FnPairWalk.bits10 (fun HT_ HW_ => ?_)
   generalize wr.drew = w61 at HO_4 HO_5 HO_534001 BK533 HB hx546_0 hx546_1 hx548_0 hx548_1 hHeld ⊢
   refine pu 0 67 ?_ (ms 20 1) rfl rfl HT_ (by kernel_rfl) (fun _ _ _ h => h) (by rfl) ?_ ?_ ?_ ?_
   rotate_left
   ·intro w'
    go_simp
    with_reducible rfl
   rotate_left
   ·simp only [SX]
    rfl
   refine pu 1 68 ?_ (ms 20 3) rfl rfl HT_ (by kernel_rfl) (fun _ _ _ h => h) (by rfl) ?_ ?_ ?_ ?_
   rotate_left
   ·intro w'
    go_simp
    with_reducible rfl
   rotate_left
   ·simp only [SX]
    rfl
   refine pu 2 69 ?_ (ms 20 7) rfl rfl HT_ (by kernel_rfl) (fun _ _ _ h => h) (by rfl) ?_ ?_ ?_ ?_
   rotate_left
   ·intro w'
    go_simp
    with_reducible rfl
   rotate_left
   ·simp only [SX]
    rfl
   refine pu 3 70 ?_ (ms 20 15) rfl rfl HT_ (by kernel_rfl) (fun _ _ _ h => h) (by rfl) ?_ ?_ ?_ ?_
   rotate_left
   ·intro w'
    go_simp
    with_reducible rfl
   rotate_left
   ·simp only [SX]
    rfl
   refine pu 6 73 ?_ (ms 20 79) rfl rfl HT_ (by kernel_rfl) (fun _ _ _ h => h) (by rfl) ?_ ?_ ?_ ?_
   rotate_left
   ·intro w'
    go_simp
    with_reducible rfl
   rotate_left
   ·simp only [SX]
    rfl
   refine tk 4 71 ?_ (ms 20 95) rfl rfl HT_ HW_ (by kernel_rfl) (fun _ _ _ h => h) (by rfl) ?_ hHeld ?_ ?_ ?_
   rotate_left
   ·rintro w' ⟨s0, s1, s2, s3, s4, s5⟩
    go_simp
    with_reducible rfl
   rotate_left
   ·simp only [SX]
    rfl
   refine tk 5 72 ?_ (ms 20 127) rfl rfl HT_ HW_ (by kernel_rfl) (fun _ _ _ h => h) (by rfl) ?_ hHeld ?_ ?_ ?_
   rotate_left
   ·rintro w' ⟨s0, s1, s2, s3, s4, s5⟩
    go_simp
    with_reducible rfl
   rotate_left
   ·simp only [SX]
    rfl
   refine one_ (i := 7) (N := some 74) (ms 20 255) rfl rfl (one_of HT_.out (by kernel_rfl)) (by decide) (fun K hK => ?_)
   refine goes_ Try.func15 (by kernel_rfl) rfl #[.agg #[.int .i64 t526, .slice (some ad540) t527.length co8], .slice (some ad539) t530.length co48] (by rfl) rfl rfl (by (try simp only [List.map_toArray, List.map_cons, List.map_nil]); rfl) ?_
   with_reducible refine (impl_WalkCost.calls k2 t526 _ _ t527 _ _ t530 t547 _ ?side1 ?side2 ?side3 ?side4 A52.out).mono ?_
   (case side1 => repeat (exact (Kd.R_reads' HO_534001.out).2.2))
   (case side2 => exact (Kd.R_reads' HO_534001.out).2.1)
   (case side3 => repeat (exact (Kd.R_reads' HO_4.out).2.2))
   (case side4 => exact (Kd.R_reads' HO_4.out).2.1)
   rintro e w62 ⟨rfl, hb⟩
   have HS2_ := (hb.cell (World.block_lt_of_cell? _ _ (hHeld.2.2.1))).trans (hHeld.2.2.1)
   have HS3_ := (hb.cell (World.block_lt_of_cell? _ _ (hHeld.2.2.2.1))).trans (hHeld.2.2.2.1)
   have HS4_ := (hb.cell (World.block_lt_of_cell? _ _ (hHeld.2.2.2.2.1))).trans (hHeld.2.2.2.2.1)
   have HS5_ := (hb.cell (World.block_lt_of_cell? _ _ (hHeld.2.2.2.2.2))).trans (hHeld.2.2.2.2.2)
   refine ⟨_, rfl, ?_⟩
   replace HO_4 := ak (Kd.R_below (rk HO_4) hb)
   replace HO_5 := ak (Kd.R_below (rk HO_5) hb)
   replace HO_534001 := ak (Kd.R_below (rk HO_534001) hb)
   replace BK533 := ak (blk_below (bk BK533) hb)
   replace HB := ak (below_step (bl1 HB GE533) hb)
   (try clear hb)
   (try clear hb2)
   (try clear hk)
   (try clear hi)
   refine hK.out _ _ ⟨(blk_cell BK533.out 0).trans rfl, (blk_cell BK533.out 1).trans rfl, HS2_, HS3_, HS4_, HS5_⟩ (fun hHeld => ?_)
   clear hK K
   refine norm_ (a' := ?_) ?_ ?_
   rotate_left
   ·show Act.put _ (some 74) _ = _
    simp only [SX]
    rfl
   refine pu 8 75 ?_ (ms 20 511) rfl rfl HT_ (by kernel_rfl) (fun _ _ _ h => h) (by rfl) ?_ ?_ ?_ ?_
   rotate_left
   ·intro w'
    go_simp
    with_reducible rfl
   rotate_left
   ·simp only [SX]
    rfl
   refine pu 9 76 ?_ (ms 20 1023) rfl rfl HT_ (by kernel_rfl) (fun _ _ _ h => h) (by rfl) ?_ ?_ ?_ ?_
   rotate_left
   ·intro w'
    go_simp
    with_reducible rfl
   rotate_left
   ·simp only [SX]
    rfl
   refine pu 10 77 ?_ (ms 20 2047) rfl rfl HT_ (by kernel_rfl) (fun _ _ _ h => h) (by rfl) ?_ ?_ ?_ ?_
   rotate_left
   ·intro w'
    go_simp
    with_reducible rfl
   rotate_left
   ·simp only [SX]
    rfl
   refine pu 11 78 ?_ (ms 20 4095) rfl rfl HT_ (by kernel_rfl) (fun _ _ _ h => h) (by rfl) ?_ ?_ ?_ ?_
   rotate_left
   ·intro w'
    go_simp
    with_reducible rfl
   rotate_left
   ·simp only [SX]
    rfl
   refine pu 12 79 ?_ (ms 20 8191) rfl rfl HT_ (by kernel_rfl) (fun _ _ _ h => h) (by rfl) ?_ ?_ ?_ ?_
   rotate_left
   ·intro w'
    go_simp
    with_reducible rfl
   rotate_left
   ·simp only [SX]
    rfl
   refine pu 13 80 ?_ (ms 20 16383) rfl rfl HT_ (by kernel_rfl) (fun _ _ _ h => h) (by rfl) ?_ ?_ ?_ ?_
   rotate_left
   ·intro w'
    go_simp
    with_reducible rfl
   rotate_left
   ·simp only [SX]
    rfl
   refine pu 16 83 ?_ (ms 20 81919) rfl rfl HT_ (by kernel_rfl) (fun _ _ _ h => h) (by rfl) ?_ ?_ ?_ ?_
   rotate_left
   ·intro w'
    go_simp
    with_reducible rfl
   rotate_left
   ·simp only [SX]
    rfl
   refine tk 14 81 ?_ (ms 20 98303) rfl rfl HT_ HW_ (by kernel_rfl) (fun _ _ _ h => h) (by rfl) ?_ hHeld ?_ ?_ ?_
   rotate_left
   ·rintro w' ⟨s0, s1, s2, s3, s4, s5⟩
    go_simp
    with_reducible rfl
   rotate_left
   ·simp only [SX]
    rfl
   refine tk 15 82 ?_ (ms 20 131071) rfl rfl HT_ HW_ (by kernel_rfl) (fun _ _ _ h => h) (by rfl) ?_ hHeld ?_ ?_ ?_
   rotate_left
   ·rintro w' ⟨s0, s1, s2, s3, s4, s5⟩
    go_simp
    with_reducible rfl
   rotate_left
   ·simp only [SX]
    rfl
   refine one_ (i := 17) (N := some 84) (ms 20 262143) rfl rfl (one_of HT_.out (by kernel_rfl)) (by decide) (fun K hK => ?_)
   refine goes_ Try.func16 (by kernel_rfl) rfl #[.agg #[.int .i64 t526, .slice (some ad540) t527.length co8], .slice (some ad539) t530.length co48] (by rfl) rfl rfl (by (try simp only [List.map_toArray, List.map_cons, List.map_nil]); rfl) ?_
   with_reducible refine (laws_wkToll.calls k2 t526 _ _ t527 _ _ t530 t549 _ ?side1 ?side2 ?side3 ?side4 A54.out).mono ?_
   (case side1 => repeat (exact (Kd.R_reads' HO_534001.out).2.2))
   (case side2 => exact (Kd.R_reads' HO_534001.out).2.1)
   (case side3 => repeat (exact (Kd.R_reads' HO_4.out).2.2))
   (case side4 => exact (Kd.R_reads' HO_4.out).2.1)
   rintro e w63 ⟨rfl, hb⟩
   have HS2_ := (hb.cell (World.block_lt_of_cell? _ _ (hHeld.2.2.1))).trans (hHeld.2.2.1)
   have HS3_ := (hb.cell (World.block_lt_of_cell? _ _ (hHeld.2.2.2.1))).trans (hHeld.2.2.2.1)
   have HS4_ := (hb.cell (World.block_lt_of_cell? _ _ (hHeld.2.2.2.2.1))).trans (hHeld.2.2.2.2.1)
   have HS5_ := (hb.cell (World.block_lt_of_cell? _ _ (hHeld.2.2.2.2.2))).trans (hHeld.2.2.2.2.2)
   refine ⟨_, rfl, ?_⟩
   replace HO_4 := ak (Kd.R_below (rk HO_4) hb)
   replace HO_5 := ak (Kd.R_below (rk HO_5) hb)
   replace HO_534001 := ak (Kd.R_below (rk HO_534001) hb)
   replace BK533 := ak (blk_below (bk BK533) hb)
   replace HB := ak (below_step (bl1 HB GE533) hb)
   (try clear hb)
   (try clear hb2)
   (try clear hk)
   (try clear hi)
   refine hK.out _ _ ⟨(blk_cell BK533.out 0).trans rfl, (blk_cell BK533.out 1).trans rfl, HS2_, HS3_, HS4_, HS5_⟩ (fun hHeld => ?_)
   clear hK K
   refine norm_ (a' := ?_) ?_ ?_
   rotate_left
   ·show Act.put _ (some 84) _ = _
    simp only [SX]
    rfl
   refine pu 18 85 ?_ (ms 20 524287) rfl rfl HT_ (by kernel_rfl) (fun _ _ _ h => h) (by rfl) ?_ ?_ ?_ ?_
   rotate_left
   ·intro w'
    go_simp
    with_reducible rfl
   rotate_left
   ·simp only [SX]
    rfl
   refine pu 19 86 ?_ (ms 20 1048575) rfl rfl HT_ (by kernel_rfl) (fun _ _ _ h => h) (by rfl) ?_ ?_ ?_ ?_
   rotate_left
   ·intro w'
    go_simp
    with_reducible rfl
   rotate_left
   ·simp only [SX]
    rfl
   refine done_ (done_of HT_.out (by kernel_rfl)) ?_
   try go_wp2
   go_roundg k2
   case measure => have := HJ3.out; have := HK2.out; omega
   case rel => exact ⟨(wrap64 (x6_2 + 1)), (by rfl), H', ⟨by have := HJ3.out; have := HK2.out; omega⟩, ⟨rk HO_4⟩, ⟨rk HO_5⟩, ⟨rk HO_534001⟩, ⟨bk BK533⟩, ⟨bl1 HB GE533⟩⟩

/-- THE ONE PURE STATEMENT of laws_FnPairWalk: yours. -/
def laws_FnPairWalk.Pure : Prop := ∀ (l0 : List Int), l0.length ≤ maxLen → l0.length * 1 ≤ 140737488351232 → (∀ x ∈ l0, (Lit.int .u8 x).wf = true) → ∃ k, laws_FnPairWalk.f k l0 = some true
theorem laws_FnPairWalk.walk (P : laws_FnPairWalk.Pure) (a0 : Option Addr) (len0 cap0 : Nat) (z0 : List Int) (w : World) (w0 : (a0 = none ∧ len0 = 0 ∧ cap0 = 0 ∧ z0 = []) ∨ ∃ x, a0 = some x ∧ len0 ≤ cap0 ∧ cap0 ≤ maxLen ∧ z0.length = cap0 ∧ (∀ i, i < z0.length → w.cell? (x.add i) = some (.int .u8 (z0.getD i 0))) ∧ ∀ n ∈ z0, (Lit.int .u8 n).wf = true) (y0 : len0 * 1 ≤ 140737488351232) :
  Calls Try.prog 3 #[.slice a0 len0 cap0] w fun e w' => e = .returned (.bool true) ∧ Below w.heap.size w w' := by
 obtain ⟨l0, rfl, hr0, hm0, hw0, hc0⟩ := ReadsInt.ofRowC w0
 obtain ⟨k, h⟩ := P l0 hm0 y0 hw0
 refine (laws_FnPairWalk.calls k _ _ l0 true w (Kd.C_of_reads (d := (0 : Int)) (h1 := fun _ => rfl) hr0) hc0 h rfl).mono ?_
 rintro e w' ⟨rfl, hd⟩
 exact ⟨rfl, hd⟩

end Go.Proofs.Ytddkaiegnohkcaa.F
