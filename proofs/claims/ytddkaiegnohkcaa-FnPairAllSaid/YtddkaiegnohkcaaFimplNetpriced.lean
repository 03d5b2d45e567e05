-- Printed by wip/px/px.py of this claim's repository (the kit's printer, extended there). Lean checks it.
import Derived.Test.YtddkaiegnohkcaaFKinds
import Derived.Test.YtddkaiegnohkcaaFimplArc90
import Derived.Test.YtddkaiegnohkcaaFimplArc91
namespace Go.Proofs.Ytddkaiegnohkcaa.F
open Go.RowKit Go.Proofs.YtddkaiegnohkcaaW.PrintWords Go.Proofs.YtddkaiegnohkcaaW.PrintLast Go.Proofs.YtddkaiegnohkcaaW.PrintMore
attribute [local go_sem] max2_int min2_int max_two min_two max_three min_three max_four min_four   -- for this text's walks alone
set_option linter.unusedVariables false
set_option linter.unusedSimpArgs false

/-! ### impl_Net_priced: function 65 -/
def impl_Net_priced.l0 : Nat → List Int → Int → Int → Int → List (S33) → Option (Int × (List (S33)))
 | 0, _, _, _, _, _ => none
 | k + 1, x15, x16, x17, x599000, x599001 => if x17 < x16 then (if 0 ≤ x17 then (if x17 < (x15.length : Int) then (if x17 < (x599001.length : Int) then (impl_Net_priced.l0 k x15 x16 (wrap64 (x17 + 1)) x599000 (x599001.set (x17 : Int).toNat (⟨(rd_T33 x599001 x17).f0, (rd_T33 x599001 x17).f1, rd x15 x17, (rd_T33 x599001 x17).f3, (rd_T33 x599001 x17).f4⟩ : S33))) else (none)) else (none)) else (none)) else (some (x599000, x599001))
def impl_Net_priced.f (k : Nat) (a0_0 : Int) (l0_1 : List (S33)) (l1 : List Int) : Option (Int × (List (S33))) := (impl_Arc_91.f l0_1).bind fun t592 => ((impl_Arc_90.f t592).bind fun t595 => (impl_Net_priced.l0 k l1 (l1.length : Int) 0 a0_0 t595))
theorem impl_Net_priced.mono_l : ∀ k, (∀ y0 y1 y2 y3 y4, LeO (impl_Net_priced.l0 k y0 y1 y2 y3 y4) (impl_Net_priced.l0 (k + 1) y0 y1 y2 y3 y4))
 | 0 => fun _ _ _ _ _ r h => by simp [impl_Net_priced.l0] at h
 | k + 1 => by
  have ih0 := impl_Net_priced.mono_l k
  ·intro y0 y1 y2 y3 y4
   unfold impl_Net_priced.l0
   repeat' first | (with_reducible exact ih0 _ _ _ _ _) | (with_reducible exact LeO.refl _) | (with_reducible refine LeO.ite ?_ ?_)
theorem impl_Net_priced.mono : ∀ a0 a1 a2 k, LeO (impl_Net_priced.f k a0 a1 a2) (impl_Net_priced.f (k + 1) a0 a1 a2) := by
 intro a0 a1 a2 k
 have ih0 := impl_Net_priced.mono_l k
 unfold impl_Net_priced.f
 repeat' first | (with_reducible exact ih0 _ _ _ _ _) | (with_reducible exact LeO.refl _) | (with_reducible refine LeO.bind ?_ (fun _ => ?_))
def impl_Net_priced.T1 : Bool × List (List Nat × List Nat) := (true, [([], []), ([0], [0]), ([], []), ([2], [2]), ([3], [3]), ([4, 4], [4]), ([1, 5], [1, 5]), ([], []), ([7, 6, 5, 0, 1, 2, 3, 4, 5, 6, 7], [6, 7])])
def impl_Net_priced.B1 : List Nat := [0, 1, 0, 4, 12, 28, 63, 0, 255]
theorem impl_Net_priced.tab1 : rtab .any (opsOf Try.f65 1) = impl_Net_priced.T1 := by kernel_rfl
theorem impl_Net_priced.bits1 : waitsOk impl_Net_priced.T1.2 impl_Net_priced.B1 = true := by kernel_rfl
set_option maxHeartbeats 8000000 in
set_option maxRecDepth 100000 in
theorem impl_Net_priced.calls (k : Nat) (a0_0 : Int) (A0_1 : Option Addr) (c0_1 : Nat) (l0_1 : List (S33)) (A1 : Option Addr) (c1 : Nat) (l1 : List Int) (r1 : Int) (r2 : List (S33)) (w : World) (hr0_1 : Kd.C k33 w A0_1 l0_1.length l0_1) (hc0_1 : l0_1.length ≤ c0_1) (hr1 : Kd.C (Kd.int .i64) w A1 l1.length l1) (hc1 : l1.length ≤ c1) (h : impl_Net_priced.f k a0_0 l0_1 l1 = some (r1, r2)) :
  Calls Try.prog 65 #[.agg #[.int .i64 a0_0, .slice A0_1 l0_1.length c0_1], .slice A1 l1.length c1] w fun e w' => ∃ v1_ : Value, e = .returned (.agg #[.int .i64 r1, v1_]) ∧ Kd.R k33 33 w' w.heap.size (fun _ => True) v1_ r2 ∧ Below w.heap.size w w' := by
 have hu25 := Try.underlying25
 have HR0_1 := ak hr0_1
 have HC0_1 := ak hc0_1
 clear hr0_1 hc0_1
 have HR1 := ak hr1
 have HC1 := ak hc1
 clear hr1 hc1
 have HB := ak (Below.refl w.heap.size w)
 have H : ((impl_Arc_91.f l0_1).bind fun t592 => ((impl_Arc_90.f t592).bind fun t595 => (impl_Net_priced.l0 k l1 (l1.length : Int) 0 a0_0 t595))) = some (r1, r2) := h
 clear h
 replace H := Option.bind_eq_some_iff.mp H
 obtain ⟨t592, A30, H⟩ := H
 have A3 := ak A30
 clear A30
 replace H := Option.bind_eq_some_iff.mp H
 obtain ⟨t595, A40, H⟩ := H
 have A4 := ak A40
 clear A40
 have H' := ak H
 clear H
 go_enter Try.func65, Try.ntmps65
 try go_wp2_with (first | ((with_reducible refine gate_dst (N := 2) rfl ?_); refine box_event ?hg (N := 2) ?hd (cs := #[.int .i64 a0_0, .slice A0_1 l0_1.length c0_1]) (t := 25) ?hr ?_; (case hd => rfl); (case hg => rfl); (case hr => (go_simp; done)); intro gb590 hg w5 hbox hb; have BK590 := ak (hbox); have GW590 := ak ((by rw [hg]; exact (below_size (bl HB)) : w.heap.size ≤ gb590)); have GE590 := ak ((by rw [hg]; exact (below_size (bl HB)) : w.heap.size ≤ gb590)); replace HB := ak (below_step (bl HB) hb); clear hb hbox hg) | ((with_reducible refine gate_dst (N := 4) rfl ?_); refine box_event ?hg (N := 4) ?hd (cs := #[.int .i64 0, .slice none 0 0]) (t := 25) ?hr ?_; (case hd => rfl); (case hg => rfl); (case hr => (go_simp; done)); intro gb591 hg w6 hbox hb; have BK591 := ak (hbox); have GW591 := ak ((by rw [hg]; exact (below_size (bl1 HB GE590)) : w.heap.size ≤ gb591)); have GE591 := ak ((by rw [hg]; exact (below_size (bl1 HB GE590)) : w.heap.size ≤ gb591)); replace HB := ak (below_step (bl1 HB GE590) hb); have NB590_591 := ak ((by rw [hg]; exact Nat.ne_of_lt (blk_lt (bk BK590)) : gb590 ≠ gb591)); have NB591_590 := ak ((by rw [hg]; exact Nat.ne_of_gt (blk_lt (bk BK590)) : gb591 ≠ gb590)); replace BK590 := ak (blk_below (bk BK590) hb); clear hb hbox hg))
 replace BK590 := ak (blk_drew BK590.out)
 replace BK591 := ak (blk_drew BK591.out)
 replace HB := ak (below_drew1 HB.out)
 refine start_ (n := 9) (S := fun w' => w'.cell? ⟨gb590, 0, none⟩ = some (.int .i64 a0_0) ∧ w'.cell? ⟨gb590, 1, none⟩ = some (.slice A0_1 l0_1.length c0_1)) (ds := []) (ms 9 0) (by kernel_rfl) rfl (by kernel_rfl) ⟨(blk_cell BK590.out 0).trans rfl, (blk_cell BK590.out 1).trans rfl⟩ (fun hHeld => ?_); refine with_tabW impl_Net_priced.tab1 impl_Net_priced.bits1 (fun HT_ HW_ => ?_)
 generalize w6.drew = w7 at BK590 BK591 HB hHeld ⊢
 refine pu 0 8 ?_ (ms 9 1) rfl rfl HT_ (by kernel_rfl) (fun _ _ _ h => h) (by rfl) ?_ ?_ ?_ ?_
 rotate_left
 ·intro w'
  go_simp
  with_reducible rfl
 rotate_left
 ·simp only [SX]
  rfl
 refine pu 2 10 ?_ (ms 9 5) rfl rfl HT_ (by kernel_rfl) (fun _ _ _ h => h) (by rfl) ?_ ?_ ?_ ?_
 rotate_left
 ·intro w'
  go_simp
  with_reducible rfl
 rotate_left
 ·simp only [SX]
  rfl
 refine tk 1 9 ?_ (ms 9 7) rfl rfl HT_ HW_ (by kernel_rfl) (fun _ _ _ h => h) (by rfl) ?_ hHeld ?_ ?_ ?_
 rotate_left
 ·rintro w' ⟨s0, s1⟩
  go_simp
  with_reducible rfl
 rotate_left
 ·simp only [SX]
  rfl
 refine tk 3 11 ?_ (ms 9 15) rfl rfl HT_ HW_ (by kernel_rfl) (fun _ _ _ h => h) (by rfl) ?_ hHeld ?_ ?_ ?_
 rotate_left
 ·rintro w' ⟨s0, s1⟩
  go_simp
  with_reducible rfl
 rotate_left
 ·simp only [SX]
  rfl
 refine join_ (σ := Value × Value × Nat) 1 (ms 9 255) (fun s_ => [(12, s_.1), (13, s_.2.1), (5, .pointer (some ⟨s_.2.2, 0, none⟩)), (14, .agg #[.int .i64 a0_0, s_.2.1])]) (fun s_ w' => (w'.cell? ⟨gb590, 0, none⟩ = some (.int .i64 a0_0) ∧ w'.cell? ⟨gb590, 1, none⟩ = some (.slice A0_1 l0_1.length c0_1)) ∧ (Kd.R k33 33 w' w.heap.size (fun _ => True) s_.2.1 t595) ∧ (w'.heap[gb590]? = some (.cells #[.int .i64 a0_0, .slice A0_1 l0_1.length c0_1] 25 (0, 0))) ∧ (w'.heap[gb591]? = some (.cells #[.int .i64 0, .slice none 0 0] 25 (0, 0))) ∧ (w'.heap[s_.2.2]? = some (.cells #[.int .i64 0, .slice none 0 0] 25 (0, 0))) ∧ (w.heap.size ≤ s_.2.2) ∧ (w.heap.size ≤ s_.2.2) ∧ (gb590 ≠ s_.2.2) ∧ (s_.2.2 ≠ gb590) ∧ (gb591 ≠ s_.2.2) ∧ (s_.2.2 ≠ gb591) ∧ (Below w.heap.size w w')) ?_ ?_
 rotate_left
 ·intro hCont
  refine two_ (i := 4) (j := 7) (Ni := some 12) (Nj := some 5) (ms 9 31) (ms 9 143) rfl rfl rfl rfl (two_of HT_.out (by kernel_rfl)) (by decide) (by decide) (fun K hK => ?_) (fun K hK => ?_)
  rotate_left
  ·skip
   refine box_step ?hg (N := 5) ?hd (cs := #[.int .i64 0, .slice none 0 0]) (t := 25) ?hr ?_; (case hd => rfl); (case hg => rfl); (case hr => (go_simp; done))
   intro gb598 hg w8 hbox hb
   have BK598 := ak (hbox)
   have GW598 := ak ((by rw [hg]; exact (below_size (bl2 HB GE590 GE591)) : w.heap.size ≤ gb598))
   have GE598 := ak ((by rw [hg]; exact (below_size (bl2 HB GE590 GE591)) : w.heap.size ≤ gb598))
   replace HB := ak (below_step (bl2 HB GE590 GE591) hb)
   have NB590_598 := ak ((by rw [hg]; exact Nat.ne_of_lt (blk_lt (bk BK590)) : gb590 ≠ gb598))
   have NB598_590 := ak ((by rw [hg]; exact Nat.ne_of_gt (blk_lt (bk BK590)) : gb598 ≠ gb590))
   replace BK590 := ak (blk_below (bk BK590) hb)
   have NB591_598 := ak ((by rw [hg]; exact Nat.ne_of_lt (blk_lt (bk BK591)) : gb591 ≠ gb598))
   have NB598_591 := ak ((by rw [hg]; exact Nat.ne_of_gt (blk_lt (bk BK591)) : gb598 ≠ gb591))
   replace BK591 := ak (blk_below (bk BK591) hb)
   clear hb hbox hg
   refine hK.out _ _ ⟨(blk_cell BK590.out 0).trans rfl, (blk_cell BK590.out 1).trans rfl⟩ (fun hHeld => ?_)
   clear hK K
   refine norm_ (a' := ?_) ?_ ?_
   rotate_left
   ·show Act.put _ (some 5) _ = _
    simp only [SX]
    rfl
   refine one_ (i := 4) (N := some 12) (ms 9 159) rfl rfl (one_of HT_.out (by kernel_rfl)) (by decide) (fun K hK => ?_)
   refine goes_ Try.func91 (by kernel_rfl) rfl #[.slice A0_1 l0_1.length c0_1] (by rfl) rfl rfl (by (try simp only [List.map_toArray, List.map_cons, List.map_nil]); rfl) ?_
   with_reducible refine (impl_Arc_91.calls _ _ l0_1 t592 _ ?side1 ?side2 A3.out).mono ?_
   (case side1 => repeat (exact (Kd.C_below HR0_1.out HB.out)))
   (case side2 => exact HC0_1.out)
   rintro e w9 ⟨v593, rfl, ho0, hb⟩
   refine ⟨_, rfl, ?_⟩
   have HO594 := ak (Kd.R_lower ho0 (below_size (bl3 HB GE590 GE591 GE598)))
   replace BK590 := ak (blk_below (bk BK590) hb)
   replace BK591 := ak (blk_below (bk BK591) hb)
   replace BK598 := ak (blk_below (bk BK598) hb)
   replace HB := ak (below_step (bl3 HB GE590 GE591 GE598) hb)
   (try clear hb)
   (try clear hb2)
   (try clear hk)
   (try clear hi)
   (try clear ho0)
   obtain ⟨Ao10, co10, eo10⟩ := Kd.R_slice HO594.out
   (subst eo10)
   refine hK.out _ _ ⟨(blk_cell BK590.out 0).trans rfl, (blk_cell BK590.out 1).trans rfl⟩ (fun hHeld => ?_)
   clear hK K
   refine norm_ (a' := ?_) ?_ ?_
   rotate_left
   ·show Act.put _ (some 12) _ = _
    simp only [SX]
    rfl
   refine one_ (i := 5) (N := some 13) (ms 9 191) rfl rfl (one_of HT_.out (by kernel_rfl)) (by decide) (fun K hK => ?_)
   refine goes_ Try.func90 (by kernel_rfl) rfl #[.slice Ao10 t592.length co10] (by rfl) rfl rfl (by (try simp only [List.map_toArray, List.map_cons, List.map_nil]); rfl) ?_
   with_reducible refine (impl_Arc_90.calls (fun k_ => some k_ = (.slice Ao10 t592.length co10 : Value).ownBlock) (.slice Ao10 t592.length co10) t592 t595 w _ ?side1 ?side2 A4.out).mono ?_
   (case side1 => repeat ((with_reducible exact HB.out)))
   (case side2 => exact Kd.R_tight rfl HO594.out)
   rintro e w11 ⟨v596, rfl, ho0, hb, hkp⟩
   refine ⟨_, rfl, ?_⟩
   have n0_ := ak (blk_kept (bk BK590) hkp (fun hs_ => (fun e_ => (Kd.R_ne HO594.out BK590.out (by decide)) e_) hs_))
   have n1_ := ak (blk_kept (bk BK591) hkp (fun hs_ => (fun e_ => (Kd.R_ne HO594.out BK591.out (by decide)) e_) hs_))
   have n2_ := ak (blk_kept (bk BK598) hkp (fun hs_ => (fun e_ => (Kd.R_ne HO594.out BK598.out (by decide)) e_) hs_))
   have n3_ := ak (Kd.R_mono (ok' := fun k_ => True) ho0 (fun k_ hk_ => trivial))
   have n4_ := ak (hb)
   clear BK590
   clear BK591
   clear BK598
   clear HB
   clear HO594
   have BK590 := n0_
   have BK591 := n1_
   have BK598 := n2_
   have HO597 := n3_
   have HB := n4_
   clear n0_ n1_ n2_ n3_ n4_
   (try clear hb)
   (try clear hkp)
   (try clear ho0)
   obtain ⟨Ao12, co12, eo12⟩ := Kd.R_slice HO597.out
   (subst eo12)
   refine hK.out _ _ ⟨(blk_cell BK590.out 0).trans rfl, (blk_cell BK590.out 1).trans rfl⟩ (fun hHeld => ?_)
   clear hK K
   refine norm_ (a' := ?_) ?_ ?_
   rotate_left
   ·show Act.put _ (some 13) _ = _
    simp only [SX]
    rfl
   refine pu 6 14 ?_ (ms 9 255) rfl rfl HT_ (by kernel_rfl) (fun _ _ _ h => h) (by rfl) ?_ ?_ ?_ ?_
   rotate_left
   ·intro w'
    go_simp
    with_reducible rfl
   rotate_left
   ·simp only [SX]
    rfl
   exact norm_ (by simp only [putAll, Act.put, List.setIfInBounds_toArray, List.set_cons_zero, List.set_cons_succ]) (hCont (.slice Ao10 t592.length co10, .slice Ao12 t595.length co12, gb598) _ ⟨hHeld, (rk HO597), (bk BK590), (bk BK591), (bk BK598), GW598.out, GE598.out, NB590_598.out, NB598_590.out, NB591_598.out, NB598_591.out, (bl3 HB GE590 GE591 GE598)⟩)
  skip
  refine goes_ Try.func91 (by kernel_rfl) rfl #[.slice A0_1 l0_1.length c0_1] (by rfl) rfl rfl (by (try simp only [List.map_toArray, List.map_cons, List.map_nil]); rfl) ?_
  with_reducible refine (impl_Arc_91.calls _ _ l0_1 t592 _ ?side1 ?side2 A3.out).mono ?_
  (case side1 => repeat (exact (Kd.C_below HR0_1.out HB.out)))
  (case side2 => exact HC0_1.out)
  rintro e w8 ⟨v593, rfl, ho0, hb⟩
  refine ⟨_, rfl, ?_⟩
  have HO594 := ak (Kd.R_lower ho0 (below_size (bl2 HB GE590 GE591)))
  replace BK590 := ak (blk_below (bk BK590) hb)
  replace BK591 := ak (blk_below (bk BK591) hb)
  replace HB := ak (below_step (bl2 HB GE590 GE591) hb)
  (try clear hb)
  (try clear hb2)
  (try clear hk)
  (try clear hi)
  (try clear ho0)
  obtain ⟨Ao9, co9, eo9⟩ := Kd.R_slice HO594.out
  (subst eo9)
  refine hK.out _ _ ⟨(blk_cell BK590.out 0).trans rfl, (blk_cell BK590.out 1).trans rfl⟩ (fun hHeld => ?_)
  clear hK K
  refine norm_ (a' := ?_) ?_ ?_
  rotate_left
  ·show Act.put _ (some 12) _ = _
   simp only [SX]
   rfl
  refine two_ (i := 5) (j := 7) (Ni := some 13) (Nj := some 5) (ms 9 63) (ms 9 159) rfl rfl rfl rfl (two_of HT_.out (by kernel_rfl)) (by decide) (by decide) (fun K hK => ?_) (fun K hK => ?_)
  ·skip
   refine goes_ Try.func90 (by kernel_rfl) rfl #[.slice Ao9 t592.length co9] (by rfl) rfl rfl (by (try simp only [List.map_toArray, List.map_cons, List.map_nil]); rfl) ?_
   with_reducible refine (impl_Arc_90.calls (fun k_ => some k_ = (.slice Ao9 t592.length co9 : Value).ownBlock) (.slice Ao9 t592.length co9) t592 t595 w _ ?side1 ?side2 A4.out).mono ?_
   (case side1 => repeat ((with_reducible exact HB.out)))
   (case side2 => exact Kd.R_tight rfl HO594.out)
   rintro e w10 ⟨v596, rfl, ho0, hb, hkp⟩
   refine ⟨_, rfl, ?_⟩
   have n0_ := ak (blk_kept (bk BK590) hkp (fun hs_ => (fun e_ => (Kd.R_ne HO594.out BK590.out (by decide)) e_) hs_))
   have n1_ := ak (blk_kept (bk BK591) hkp (fun hs_ => (fun e_ => (Kd.R_ne HO594.out BK591.out (by decide)) e_) hs_))
   have n2_ := ak (Kd.R_mono (ok' := fun k_ => True) ho0 (fun k_ hk_ => trivial))
   have n3_ := ak (hb)
   clear BK590
   clear BK591
   clear HB
   clear HO594
   have BK590 := n0_
   have BK591 := n1_
   have HO597 := n2_
   have HB := n3_
   clear n0_ n1_ n2_ n3_
   (try clear hb)
   (try clear hkp)
   (try clear ho0)
   obtain ⟨Ao11, co11, eo11⟩ := Kd.R_slice HO597.out
   (subst eo11)
   refine hK.out _ _ ⟨(blk_cell BK590.out 0).trans rfl, (blk_cell BK590.out 1).trans rfl⟩ (fun hHeld => ?_)
   clear hK K
   refine norm_ (a' := ?_) ?_ ?_
   rotate_left
   ·show Act.put _ (some 13) _ = _
    simp only [SX]
    rfl
   refine pu 6 14 ?_ (ms 9 127) rfl rfl HT_ (by kernel_rfl) (fun _ _ _ h => h) (by rfl) ?_ ?_ ?_ ?_
   rotate_left
   ·intro w'
    go_simp
    with_reducible rfl
   rotate_left
   ·simp only [SX]
    rfl
   refine one_ (i := 7) (N := some 5) (ms 9 255) rfl rfl (one_of HT_.out (by kernel_rfl)) (by decide) (fun K hK => ?_)
   refine box_step ?hg (N := 5) ?hd (cs := #[.int .i64 0, .slice none 0 0]) (t := 25) ?hr ?_; (case hd => rfl); (case hg => rfl); (case hr => (go_simp; done))
   intro gb598 hg w12 hbox hb
   replace HO597 := ak (Kd.R_below (rk HO597) hb)
   have BK598 := ak (hbox)
   have GW598 := ak ((by rw [hg]; exact (below_size (bl2 HB GE590 GE591)) : w.heap.size ≤ gb598))
   have GE598 := ak ((by rw [hg]; exact (below_size (bl2 HB GE590 GE591)) : w.heap.size ≤ gb598))
   replace HB := ak (below_step (bl2 HB GE590 GE591) hb)
   have NB590_598 := ak ((by rw [hg]; exact Nat.ne_of_lt (blk_lt (bk BK590)) : gb590 ≠ gb598))
   have NB598_590 := ak ((by rw [hg]; exact Nat.ne_of_gt (blk_lt (bk BK590)) : gb598 ≠ gb590))
   replace BK590 := ak (blk_below (bk BK590) hb)
   have NB591_598 := ak ((by rw [hg]; exact Nat.ne_of_lt (blk_lt (bk BK591)) : gb591 ≠ gb598))
   have NB598_591 := ak ((by rw [hg]; exact Nat.ne_of_gt (blk_lt (bk BK591)) : gb598 ≠ gb591))
   replace BK591 := ak (blk_below (bk BK591) hb)
   clear hb hbox hg
   refine hK.out _ _ ⟨(blk_cell BK590.out 0).trans rfl, (blk_cell BK590.out 1).trans rfl⟩ (fun hHeld => ?_)
   clear hK K
   refine norm_ (a' := ?_) ?_ ?_
   rotate_left
   ·show Act.put _ (some 5) _ = _
    simp only [SX]
    rfl
   exact norm_ (by simp only [putAll, Act.put, List.setIfInBounds_toArray, List.set_cons_zero, List.set_cons_succ]) (hCont (.slice Ao9 t592.length co9, .slice Ao11 t595.length co11, gb598) _ ⟨hHeld, (rk HO597), (bk BK590), (bk BK591), (bk BK598), GW598.out, GE598.out, NB590_598.out, NB598_590.out, NB591_598.out, NB598_591.out, (bl3 HB GE590 GE591 GE598)⟩)
  skip
  refine box_step ?hg (N := 5) ?hd (cs := #[.int .i64 0, .slice none 0 0]) (t := 25) ?hr ?_; (case hd => rfl); (case hg => rfl); (case hr => (go_simp; done))
  intro gb598 hg w9 hbox hb
  replace HO594 := ak (Kd.R_below (rk HO594) hb)
  have BK598 := ak (hbox)
  have GW598 := ak ((by rw [hg]; exact (below_size (bl2 HB GE590 GE591)) : w.heap.size ≤ gb598))
  have GE598 := ak ((by rw [hg]; exact (below_size (bl2 HB GE590 GE591)) : w.heap.size ≤ gb598))
  replace HB := ak (below_step (bl2 HB GE590 GE591) hb)
  have NB590_598 := ak ((by rw [hg]; exact Nat.ne_of_lt (blk_lt (bk BK590)) : gb590 ≠ gb598))
  have NB598_590 := ak ((by rw [hg]; exact Nat.ne_of_gt (blk_lt (bk BK590)) : gb598 ≠ gb590))
  replace BK590 := ak (blk_below (bk BK590) hb)
  have NB591_598 := ak ((by rw [hg]; exact Nat.ne_of_lt (blk_lt (bk BK591)) : gb591 ≠ gb598))
  have NB598_591 := ak ((by rw [hg]; exact Nat.ne_of_gt (blk_lt (bk BK591)) : gb598 ≠ gb591))
  replace BK591 := ak (blk_below (bk BK591) hb)
  clear hb hbox hg
  obtain ⟨Ao10, co10, eo10⟩ := Kd.R_slice HO594.out
  ((injection eo10 with f1_ f2_ f3_; have f4_ := f1_.symm; have f5_ := f3_.symm; clear f1_ f2_ f3_; subst f4_; subst f5_))
  refine hK.out _ _ ⟨(blk_cell BK590.out 0).trans rfl, (blk_cell BK590.out 1).trans rfl⟩ (fun hHeld => ?_)
  clear hK K
  refine norm_ (a' := ?_) ?_ ?_
  rotate_left
  ·show Act.put _ (some 5) _ = _
   simp only [SX]
   rfl
  refine one_ (i := 5) (N := some 13) (ms 9 191) rfl rfl (one_of HT_.out (by kernel_rfl)) (by decide) (fun K hK => ?_)
  refine goes_ Try.func90 (by kernel_rfl) rfl #[.slice Ao10 t592.length co10] (by rfl) rfl rfl (by (try simp only [List.map_toArray, List.map_cons, List.map_nil]); rfl) ?_
  with_reducible refine (impl_Arc_90.calls (fun k_ => some k_ = (.slice Ao10 t592.length co10 : Value).ownBlock) (.slice Ao10 t592.length co10) t592 t595 w _ ?side1 ?side2 A4.out).mono ?_
  (case side1 => repeat ((with_reducible exact HB.out)))
  (case side2 => exact Kd.R_tight rfl HO594.out)
  rintro e w11 ⟨v596, rfl, ho0, hb, hkp⟩
  refine ⟨_, rfl, ?_⟩
  have n0_ := ak (blk_kept (bk BK590) hkp (fun hs_ => (fun e_ => (Kd.R_ne HO594.out BK590.out (by decide)) e_) hs_))
  have n1_ := ak (blk_kept (bk BK591) hkp (fun hs_ => (fun e_ => (Kd.R_ne HO594.out BK591.out (by decide)) e_) hs_))
  have n2_ := ak (blk_kept (bk BK598) hkp (fun hs_ => (fun e_ => (Kd.R_ne HO594.out BK598.out (by decide)) e_) hs_))
  have n3_ := ak (Kd.R_mono (ok' := fun k_ => True) ho0 (fun k_ hk_ => trivial))
  have n4_ := ak (hb)
  clear BK590
  clear BK591
  clear BK598
  clear HB
  clear HO594
  have BK590 := n0_
  have BK591 := n1_
  have BK598 := n2_
  have HO597 := n3_
  have HB := n4_
  clear n0_ n1_ n2_ n3_ n4_
  (try clear hb)
  (try clear hkp)
  (try clear ho0)
  obtain ⟨Ao12, co12, eo12⟩ := Kd.R_slice HO597.out
  (subst eo12)
  refine hK.out _ _ ⟨(blk_cell BK590.out 0).trans rfl, (blk_cell BK590.out 1).trans rfl⟩ (fun hHeld => ?_)
  clear hK K
  refine norm_ (a' := ?_) ?_ ?_
  rotate_left
  ·show Act.put _ (some 13) _ = _
   simp only [SX]
   rfl
  refine pu 6 14 ?_ (ms 9 255) rfl rfl HT_ (by kernel_rfl) (fun _ _ _ h => h) (by rfl) ?_ ?_ ?_ ?_
  rotate_left
  ·intro w'
   go_simp
   with_reducible rfl
  rotate_left
  ·simp only [SX]
   rfl
  exact norm_ (by simp only [putAll, Act.put, List.setIfInBounds_toArray, List.set_cons_zero, List.set_cons_succ]) (hCont (.slice Ao10 t592.length co10, .slice Ao12 t595.length co12, gb598) _ ⟨hHeld, (rk HO597), (bk BK590), (bk BK591), (bk BK598), GW598.out, GE598.out, NB590_598.out, NB598_590.out, NB591_598.out, NB598_591.out, (bl3 HB GE590 GE591 GE598)⟩)
 rintro ⟨v593, v596, gb598⟩ w13 ⟨hS_, h0_, h1_, h2_, h3_, h4_, h5_, h6_, h7_, h8_, h9_, h10_⟩
 have HO597 : Aside0 (Kd.R k33 33 w13 w.heap.size (fun _ => True) v596 t595) := ⟨h0_⟩
 replace BK590 : Aside0 (w13.heap[gb590]? = some (.cells #[.int .i64 a0_0, .slice A0_1 l0_1.length c0_1] 25 (0, 0))) := ⟨h1_⟩
 replace BK591 : Aside0 (w13.heap[gb591]? = some (.cells #[.int .i64 0, .slice none 0 0] 25 (0, 0))) := ⟨h2_⟩
 have BK598 : Aside0 (w13.heap[gb598]? = some (.cells #[.int .i64 0, .slice none 0 0] 25 (0, 0))) := ⟨h3_⟩
 have GW598 : Aside0 (w.heap.size ≤ gb598) := ⟨h4_⟩
 have GE598 : Aside0 (w.heap.size ≤ gb598) := ⟨h5_⟩
 have NB590_598 : Aside0 (gb590 ≠ gb598) := ⟨h6_⟩
 have NB598_590 : Aside0 (gb598 ≠ gb590) := ⟨h7_⟩
 have NB591_598 : Aside0 (gb591 ≠ gb598) := ⟨h8_⟩
 have NB598_591 : Aside0 (gb598 ≠ gb591) := ⟨h9_⟩
 replace HB : Aside0 (Below w.heap.size w w13) := ⟨h10_⟩
 clear h0_ h1_ h2_ h3_ h4_ h5_ h6_ h7_ h8_ h9_ h10_
 have hHeld : w13.cell? ⟨gb590, 0, none⟩ = some (.int .i64 a0_0) ∧ w13.cell? ⟨gb590, 1, none⟩ = some (.slice A0_1 l0_1.length c0_1) := hS_
 obtain ⟨Ao14, co14, eo14⟩ := Kd.R_slice HO597.out
 (subst eo14)
 refine norm_ (a' := ?_) ?_ ?_
 rotate_left
 ·simp only [putAll, Act.put, List.setIfInBounds_toArray, List.set_cons_zero, List.set_cons_succ]
  rfl
 refine one_ (i := 8) (N := none) (ms 9 511) rfl rfl (one_of HT_.out (by kernel_rfl)) (by decide) (fun K hK => ?_)
 have hs15 : w13.cell? ⟨gb598, 0, none⟩ = some (.int .i64 0) := (blk_cell BK598.out 0).trans rfl
 have hfs15 := blk_frozen BK598.out 0
 have hns15_0 := NB590_598.out
 have hns15_1 := NB591_598.out
 have hms15_0 := NB598_590.out
 have hms15_1 := NB598_591.out
 have hs16 : w13.cell? ⟨gb598, 1, none⟩ = some (.slice none 0 0) := (blk_cell BK598.out 1).trans rfl
 have hfs16 := blk_frozen BK598.out 1
 have hns16_0 := NB590_598.out
 have hns16_1 := NB591_598.out
 have hms16_0 := NB598_590.out
 have hms16_1 := NB598_591.out
 refine skip_ (w1 := ?_) (by rfl) rfl ?_ ?_
 rotate_left
 ·go_simp
  rfl
 refine hK.out _ _ ⟨((cell_far (p := ⟨gb598, _, none⟩) NB590_598.out _).trans (((cell_far (p := ⟨gb598, _, none⟩) NB590_598.out _).trans (hHeld.1)))), ((cell_far (p := ⟨gb598, _, none⟩) NB590_598.out _).trans (((cell_far (p := ⟨gb598, _, none⟩) NB590_598.out _).trans (hHeld.2))))⟩ (fun hHeld => ?_)
 clear hK K
 refine done_ (done_of HT_.out (by kernel_rfl)) ?_
 try go_wp2
 go_loopg [17] k (fun kq v17 w' => ∃ (x17_1 : Int) (x599001_1 : List (S33)) (u599001 : Value), v17 = .int .i64 x17_1 ∧ Aside0 (impl_Net_priced.l0 kq l1 (l1.length : Int) x17_1 a0_0 x599001_1 = some (r1, r2)) ∧ Aside0 (kq ≤ k) ∧ Aside0 (Kd.R k33 33 w' w.heap.size (fun _ => True) u599001 x599001_1) ∧ Aside0 (w'.heap[gb590]? = some (.cells #[.int .i64 a0_0, (.slice A0_1 l0_1.length c0_1)] 25 (0, 0))) ∧ Aside0 (w'.heap[gb591]? = some (.cells #[.int .i64 0, (.slice none 0 0)] 25 (0, 0))) ∧ Aside0 (w'.heap[gb598]? = some (.cells #[.int .i64 a0_0, u599001] 25 (0, 0))) ∧ Aside0 (Below w.heap.size w w'))
 case atStart => exact ⟨(0), (t595), (.slice Ao14 t595.length co14), (by rfl), H', ⟨Nat.le_refl _⟩, ⟨by exact Kd.R_mono (Kd.R_far (p := ⟨gb598, 1, none⟩) (Kd.R_far (p := ⟨gb598, 0, none⟩) (Kd.R_types HO597.out BK598.out (by decide)) (fun _ hk => hk.2) (.int .i64 a0_0)) (fun _ hk => hk.2) (.slice Ao14 t595.length co14)) (fun _ hk => trivial)⟩, ⟨by refine blk_far ?_ NB590_598.out _; refine blk_far ?_ NB590_598.out _; exact BK590.out⟩, ⟨by refine blk_far ?_ NB591_598.out _; refine blk_far ?_ NB591_598.out _; exact BK591.out⟩, ⟨by refine blk_put (cs := #[.int .i64 a0_0, .slice none 0 0]) ?_ 1 _ rfl; refine blk_put (cs := #[.int .i64 0, .slice none 0 0]) ?_ 0 _ rfl; exact BK598.out⟩, ⟨bl3 HB GE590 GE591 GE598⟩⟩
 clear H'
 try clear c1
 try clear p2
 try clear c6
 try clear c9
 obtain ⟨x17_1, x599001_1, u599001, rfl, HA, HK1, HO_599001, BK590, BK591, BK598, HB⟩ := hrel
 cases gk with
 | zero => exact absurd HA.out (by simp [impl_Net_priced.l0])
 | succ k1 =>
  have H := HA.out
  clear HA
  simp only [impl_Net_priced.l0] at H
  by_cases c17 : x17_1 < (l1.length : Int)
  rotate_left
  ·rw [if_neg c17] at H
   have c17b0 : decide (x17_1 < (l1.length : Int)) = false := decide_eq_false c17
   clear c17
   simp only [Option.some.injEq, Prod.mk.injEq] at H
   obtain ⟨rfl, rfl⟩ := H
   have hnb27 := NB598_590.out
   have hnc27 := NB590_598.out
   have hnb28 := NB598_591.out
   have hnc28 := NB591_598.out
   have hcz29_0 := bc wr BK598 0 (.int .i64 a0_0) rfl
   have hcz29_1 := bc wr BK598 1 (u599001) rfl
   have hfz29_0 := fz BK598 0
   have hfz29_1 := fz BK598 1
   have hnb30 := NB591_590.out
   have hnc30 := NB590_591.out
   have hcz31_0 := bc wr BK591 0 (.int .i64 0) rfl
   have hcz31_1 := bc wr BK591 1 (.slice none 0 0) rfl
   have hfz31_0 := fz BK591 0
   have hfz31_1 := fz BK591 1
   obtain ⟨Ao32, co32, eo32⟩ := Kd.R_slice HO_599001.out
   subst eo32
   go_wp2
   refine bodyPost_ret (results_cell_row rfl _ _ gb591 25 #[.int .i64 a0_0, .slice Ao32 x599001_1.length co32] (0, 0) _ rfl (by refine blk_put (cs := #[.int .i64 a0_0, .slice none 0 0]) ?_ 1 _ rfl; refine blk_put (cs := #[.int .i64 0, .slice none 0 0]) ?_ 0 _ rfl; exact BK591.out) Try.underlying25 rfl (by kernel_rfl)) rfl ?_
   exact ⟨_, by rfl, by exact Kd.R_mono (Kd.R_far (p := ⟨gb591, 1, none⟩) (Kd.R_far (p := ⟨gb591, 0, none⟩) (Kd.R_types HO_599001.out BK591.out (by decide)) (fun _ hk => hk.2) (.int .i64 a0_0)) (fun _ hk => hk.2) (.slice Ao32 x599001_1.length co32)) (fun _ hk => trivial), bl3 HB GE590 GE591 GE598⟩
  rw [if_pos c17] at H
  have c17b0 : decide (x17_1 < (l1.length : Int)) = true := decide_eq_true c17
  clear c17
  by_cases c18 : 0 ≤ x17_1
  rotate_left
  ·rw [if_neg c18] at H
   exact absurd H (by simp)
  rw [if_pos c18] at H
  have c18b0 : decide (0 ≤ x17_1) = true := decide_eq_true c18
  clear c18
  by_cases c19 : x17_1 < (l1.length : Int)
  rotate_left
  ·rw [if_neg c19] at H
   exact absurd H (by simp)
  rw [if_pos c19] at H
  have c19b0 : decide (x17_1 < (l1.length : Int)) = true := decide_eq_true c19
  clear c19
  by_cases c20 : x17_1 < (x599001_1.length : Int)
  rotate_left
  ·rw [if_neg c20] at H
   exact absurd H (by simp)
  rw [if_pos c20] at H
  have c20b0 : decide (x17_1 < (x599001_1.length : Int)) = true := decide_eq_true c20
  clear c20
  obtain ⟨y600, hy600⟩ : ∃ y_ : List (S33), y_ = (x599001_1.set (x17_1 : Int).toNat (⟨(rd_T33 x599001_1 x17_1).f0, (rd_T33 x599001_1 x17_1).f1, rd l1 x17_1, (rd_T33 x599001_1 x17_1).f3, (rd_T33 x599001_1 x17_1).f4⟩ : S33)) := ⟨_, rfl⟩
  replace H : (impl_Net_priced.l0 k1 l1 (l1.length : Int) (wrap64 (x17_1 + 1)) a0_0 y600) = some (r1, r2) := by (rw [hy600]; with_reducible exact H)
  have Ny600 := ak hy600
  clear hy600
  have H' := ak H
  clear H
  have p599 : 0 ≤ (x17_1 : Int) := oT (by (with_reducible assumption))
  have q599 : x17_1 < (l1.length : Int) := oT (by (with_reducible assumption))
  obtain ⟨ad599, e599, hx599_0⟩ := Kd.at_int HR1.out x17_1 p599 q599
  cases e599
  replace hx599_0 := hcb HB.out hx599_0
  replace p599 := eq_true p599
  replace q599 := eq_true q599
  have hnb22 := NB598_590.out
  have hnc22 := NB590_598.out
  have hnb23 := NB598_591.out
  have hnc23 := NB591_598.out
  have hcz24_0 := bc wr BK598 0 (.int .i64 a0_0) rfl
  have hcz24_1 := bc wr BK598 1 (u599001) rfl
  have hfz24_0 := fz BK598 0
  have hfz24_1 := fz BK598 1
  have p21 : 0 ≤ (x17_1 : Int) := oT (by (with_reducible assumption))
  have q21 : (x17_1 : Int) < ((x599001_1.length : Int) : Int) := oT (by (with_reducible assumption))
  obtain ⟨go21, co21, eo21, gb21, gl21, cl21, HG21⟩ := Kd.R_form HO_599001.out (by omega)
  (cases eo21)
  have GB21 := ak gb21
  have GG21 := ak HG21
  clear gb21 gl21 HG21
  obtain ⟨ce21, hcl21, hM21, hcc21, hfr21⟩ := Kd.R_elem HO_599001.out z33 (x17_1 : Int) p21 q21
  obtain rfl := k33_openM hM21
  have hx21_0 : wr.cell? ⟨go21, (x17_1 : Int).toNat * 5, none⟩ = some (.int .i64 ((rd_T33 x599001_1 x17_1).f0)) := hcc21 0 _ rfl
  have hx21_1 : wr.cell? ⟨go21, (x17_1 : Int).toNat * 5 + 1, none⟩ = some (.int .i64 ((rd_T33 x599001_1 x17_1).f1)) := hcc21 1 _ rfl
  have hx21_2 : wr.cell? ⟨go21, (x17_1 : Int).toNat * 5 + 2, none⟩ = some (.int .i64 ((rd_T33 x599001_1 x17_1).f2)) := hcc21 2 _ rfl
  have hx21_3 : wr.cell? ⟨go21, (x17_1 : Int).toNat * 5 + 3, none⟩ = some (.int .i64 ((rd_T33 x599001_1 x17_1).f3)) := hcc21 3 _ rfl
  have hx21_4 : wr.cell? ⟨go21, (x17_1 : Int).toNat * 5 + 4, none⟩ = some (.int .i64 ((rd_T33 x599001_1 x17_1).f4)) := hcc21 4 _ rfl
  have hf21_0 : wr.frozen? ⟨go21, (x17_1 : Int).toNat * 5, none⟩ = false := hfr21 0
  have hf21_1 : wr.frozen? ⟨go21, (x17_1 : Int).toNat * 5 + 1, none⟩ = false := hfr21 1
  have hf21_2 : wr.frozen? ⟨go21, (x17_1 : Int).toNat * 5 + 2, none⟩ = false := hfr21 2
  have hf21_3 : wr.frozen? ⟨go21, (x17_1 : Int).toNat * 5 + 3, none⟩ = false := hfr21 3
  have hf21_4 : wr.frozen? ⟨go21, (x17_1 : Int).toNat * 5 + 4, none⟩ = false := hfr21 4
  clear hcl21 hcc21 hfr21 hM21
  replace p21 := eq_true p21
  replace q21 := eq_true q21
  have HX25 := ak (show Kd.R k33 33 wr w.heap.size (fun _ => True) (.slice (some ⟨go21, 0, none⟩) x599001_1.length co21) x599001_1 from (rk HO_599001))
  obtain ⟨ce25, hcl25, hM25, hcc25, hfr25⟩ := Kd.R_elem HX25.out z33 (x17_1 : Int) (oT (by (with_reducible assumption))) (by have h_ : (x17_1 : Int) < ((x599001_1.length : Int) : Int) := oT (by (with_reducible assumption)); exact h_)
  obtain rfl := k33_openM hM25
  have HP25 := Kd.R_seg HX25.out (x17_1 : Int) (oT (by (with_reducible assumption))) (by have h_ : (x17_1 : Int) < ((x599001_1.length : Int) : Int) := oT (by (with_reducible assumption)); exact h_) (seg := [.int .i64 (rd l1 x17_1)]) (j := 2) hcl25 hcc25 (show 3 ≤ 5 from by decide) (x' := (⟨(rd_T33 x599001_1 x17_1).f0, (rd_T33 x599001_1 x17_1).f1, rd l1 x17_1, (rd_T33 x599001_1 x17_1).f3, (rd_T33 x599001_1 x17_1).f4⟩ : S33)) (k33_mkM _ _ _ (⟨(rd_T33 x599001_1 x17_1).f0, (rd_T33 x599001_1 x17_1).f1, rd l1 x17_1, (rd_T33 x599001_1 x17_1).f3, (rd_T33 x599001_1 x17_1).f4⟩ : S33) ) (fun _ hk => hk)
  have hx25_2 := hcc25 2 _ rfl
  (try simp only [show (k33).sz = 5 from rfl, Nat.mul_one, Nat.add_zero] at hx25_2)
  have hf25_2 := hfr25 2
  (try simp only [show (k33).sz = 5 from rfl, Nat.mul_one, Nat.add_zero] at hf25_2)
  clear hcl25 hcc25 hfr25 hM25
  go_wp2_with (((with_reducible refine gate_store (t := 3) (p := 27) rfl ?_); refine store_event (t := 3) (p := 27) (v := ?vo_w26) (w1 := (wr.setCell ⟨go21, (x17_1 : Int).toNat * 5 + 2, none⟩ (.int .i64 (rd l1 x17_1)))) ?hg ?ho ?hn ?hr ?_; (case ho => rfl); (case hg => rfl); (case hn => rfl); (case hr => (go_simp; done)); intro w26 hw; have hg : wr.grownBy w26 (some go21) := (by rw [hw]; exact HP25.2); have hp_ : Kd.R k33 33 w26 w.heap.size (fun _ => True) (.slice (some ⟨go21, 0, none⟩) x599001_1.length co21) y600 := (by rw [hw, Ny600.out]; exact HP25.1); clear HP25; replace BK590 := ak (blk_grown (bk BK590) hg (Kd.R_ne HO_599001.out BK590.out (by decide))); replace BK591 := ak (blk_grown (bk BK591) hg (Kd.R_ne HO_599001.out BK591.out (by decide))); replace BK598 := ak (blk_grown (bk BK598) hg (Kd.R_ne HO_599001.out BK598.out (by decide))); replace HO_599001 := ak (hp_); replace HB := ak ((by rw [hw]; exact below_set (HB.out) GB21.out : Below w.heap.size w w26)); clear hg hw hp_))
  go_roundg k1
  case measure => have := HK1.out; omega
  case rel => exact ⟨(wrap64 (x17_1 + 1)), (y600), (.slice (some ⟨go21, 0, none⟩) x599001_1.length co21), (by rfl), H', ⟨by have := HK1.out; omega⟩, ⟨rk HO_599001⟩, ⟨bk BK590⟩, ⟨bk BK591⟩, ⟨bk BK598⟩, ⟨bl3 HB GE590 GE591 GE598⟩⟩

end Go.Proofs.Ytddkaiegnohkcaa.F
