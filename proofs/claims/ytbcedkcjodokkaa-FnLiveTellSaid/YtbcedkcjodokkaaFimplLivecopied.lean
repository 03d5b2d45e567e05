-- Printed by wip/px/px.py of this claim's repository (the kit's printer, extended there). Lean checks it.
import Derived.Test.YtbcedkcjodokkaaFKinds
import Derived.Test.YtbcedkcjodokkaaFimplNews19
import Derived.Test.YtbcedkcjodokkaaFimplArc31
import Derived.Test.YtbcedkcjodokkaaFimplArc32
import Derived.Test.YtbcedkcjodokkaaFimplNews33
namespace Go.Proofs.Ytbcedkcjodokkaa.F
open Go.RowKit Go.Proofs.YtbcedkcjodokkaaW.PrintWords Go.Proofs.YtbcedkcjodokkaaW.PrintLast Go.Proofs.YtbcedkcjodokkaaW.PrintMore
attribute [local go_sem] max2_int min2_int max_two min_two max_three min_three max_four min_four   -- for this text's walks alone
set_option linter.unusedVariables false
set_option linter.unusedSimpArgs false

/-! ### impl_Live_copied: function 17 -/
def impl_Live_copied.f (a0_0 : Int) (l0_1 : List (S65)) (l0_2 : List (S30)) : Option (Int × (List (S65)) × (List (S30))) := (impl_Arc_32.f l0_1).bind fun t331 => ((impl_Arc_31.f t331).bind fun t334 => ((impl_News_33.f l0_2).bind fun t337 => ((impl_News_19.f t337).bind fun t340 => (some (a0_0, t334, t340)))))
def impl_Live_copied.T1 : Bool × List (List Nat × List Nat) := (true, [([], []), ([0], [0]), ([1], [1]), ([], []), ([3], [3]), ([4], [4]), ([5], [5]), ([6, 6], [6]), ([2, 7], [2, 7]), ([], []), ([9], [9]), ([10, 7], [10]), ([11, 11], [11]), ([8, 12], [8, 12]), ([13, 12, 0, 1, 2, 3, 4, 5, 6, 7, 8, 9, 10, 11, 12, 13], [13])])
def impl_Live_copied.B1 : List Nat := [0, 1, 3, 0, 8, 24, 56, 120, 255, 0, 512, 1784, 3832, 8191, 16383]
theorem impl_Live_copied.tab1 : rtab .any (opsOf Try.f17 1) = impl_Live_copied.T1 := by kernel_rfl
theorem impl_Live_copied.bits1 : waitsOk impl_Live_copied.T1.2 impl_Live_copied.B1 = true := by kernel_rfl
set_option maxHeartbeats 8000000 in
set_option maxRecDepth 100000 in
theorem impl_Live_copied.calls (a0_0 : Int) (A0_1 : Option Addr) (c0_1 : Nat) (l0_1 : List (S65)) (A0_2 : Option Addr) (c0_2 : Nat) (l0_2 : List (S30)) (r1 : Int) (r2 : List (S65)) (r3 : List (S30)) (w : World) (hr0_1 : Kd.C k65 w A0_1 l0_1.length l0_1) (hc0_1 : l0_1.length ≤ c0_1) (hr0_2 : Kd.C k30 w A0_2 l0_2.length l0_2) (hc0_2 : l0_2.length ≤ c0_2) (h : impl_Live_copied.f a0_0 l0_1 l0_2 = some (r1, r2, r3)) :
  Calls Try.prog 17 #[.agg #[.int .i64 a0_0, .slice A0_1 l0_1.length c0_1, .slice A0_2 l0_2.length c0_2]] w fun e w' => ∃ v1_ v2_ : Value, e = .returned (.agg #[.int .i64 r1, v1_, v2_]) ∧ Kd.R k65 65 w' w.heap.size (fun _ => True) v1_ r2 ∧ Kd.R k30 30 w' w.heap.size (fun _ => True) v2_ r3 ∧ Below w.heap.size w w' := by
 have hu28 := Try.underlying28
 have hu25 := Try.underlying25
 have HR0_1 := ak hr0_1
 have HC0_1 := ak hc0_1
 clear hr0_1 hc0_1
 have HR0_2 := ak hr0_2
 have HC0_2 := ak hc0_2
 clear hr0_2 hc0_2
 have HB := ak (Below.refl w.heap.size w)
 have H : ((impl_Arc_32.f l0_1).bind fun t331 => ((impl_Arc_31.f t331).bind fun t334 => ((impl_News_33.f l0_2).bind fun t337 => ((impl_News_19.f t337).bind fun t340 => (some (a0_0, t334, t340)))))) = some (r1, r2, r3) := h
 clear h
 replace H := Option.bind_eq_some_iff.mp H
 obtain ⟨t331, A20, H⟩ := H
 have A2 := ak A20
 clear A20
 replace H := Option.bind_eq_some_iff.mp H
 obtain ⟨t334, A30, H⟩ := H
 have A3 := ak A30
 clear A30
 replace H := Option.bind_eq_some_iff.mp H
 obtain ⟨t337, A40, H⟩ := H
 have A4 := ak A40
 clear A40
 replace H := Option.bind_eq_some_iff.mp H
 obtain ⟨t340, A50, H⟩ := H
 have A5 := ak A50
 clear A50
 simp only [Option.some.injEq, Prod.mk.injEq] at H
 obtain ⟨rfl, rfl, rfl⟩ := H
 go_enter Try.func17, Try.ntmps17
 try go_wp2_with (first | ((with_reducible refine gate_dst (N := 1) rfl ?_); refine box_event ?hg (N := 1) ?hd (cs := #[.int .i64 a0_0, .slice A0_1 l0_1.length c0_1, .slice A0_2 l0_2.length c0_2]) (t := 28) ?hr ?_; (case hd => rfl); (case hg => rfl); (case hr => (go_simp; done)); intro gb329 hg w6 hbox hb; have BK329 := ak (hbox); have GW329 := ak ((by rw [hg]; exact (below_size (bl HB)) : w.heap.size ≤ gb329)); have GE329 := ak ((by rw [hg]; exact (below_size (bl HB)) : w.heap.size ≤ gb329)); replace HB := ak (below_step (bl HB) hb); clear hb hbox hg) | ((with_reducible refine gate_dst (N := 2) rfl ?_); refine box_event ?hg (N := 2) ?hd (cs := #[.int .i64 0, .slice none 0 0, .slice none 0 0]) (t := 28) ?hr ?_; (case hd => rfl); (case hg => rfl); (case hr => (go_simp; done)); intro gb330 hg w7 hbox hb; have BK330 := ak (hbox); have GW330 := ak ((by rw [hg]; exact (below_size (bl1 HB GE329)) : w.heap.size ≤ gb330)); have GE330 := ak ((by rw [hg]; exact (below_size (bl1 HB GE329)) : w.heap.size ≤ gb330)); replace HB := ak (below_step (bl1 HB GE329) hb); have NB329_330 := ak ((by rw [hg]; exact Nat.ne_of_lt (blk_lt (bk BK329)) : gb329 ≠ gb330)); have NB330_329 := ak ((by rw [hg]; exact Nat.ne_of_gt (blk_lt (bk BK329)) : gb330 ≠ gb329)); replace BK329 := ak (blk_below (bk BK329) hb); clear hb hbox hg))
 replace BK329 := ak (blk_drew BK329.out)
 replace BK330 := ak (blk_drew BK330.out)
 replace HB := ak (below_drew1 HB.out)
 refine start_ (n := 15) (S := fun w' => w'.cell? ⟨gb329, 0, none⟩ = some (.int .i64 a0_0) ∧ w'.cell? ⟨gb329, 1, none⟩ = some (.slice A0_1 l0_1.length c0_1) ∧ w'.cell? ⟨gb329, 2, none⟩ = some (.slice A0_2 l0_2.length c0_2)) (ds := []) (ms 15 0) (by kernel_rfl) rfl (by kernel_rfl) ⟨(blk_cell BK329.out 0).trans rfl, (blk_cell BK329.out 1).trans rfl, (blk_cell BK329.out 2).trans rfl⟩ (fun hHeld => ?_); refine with_tabW impl_Live_copied.tab1 impl_Live_copied.bits1 (fun HT_ HW_ => ?_)
 generalize w7.drew = w8 at BK329 BK330 HB hHeld ⊢
 refine pu 0 3 ?_ (ms 15 1) rfl rfl HT_ (by kernel_rfl) (fun _ _ _ h => h) (by rfl) ?_ ?_ ?_ ?_
 rotate_left
 ·intro w'
  go_simp
  with_reducible rfl
 rotate_left
 ·simp only [SX]
  rfl
 refine pu 1 4 ?_ (ms 15 3) rfl rfl HT_ (by kernel_rfl) (fun _ _ _ h => h) (by rfl) ?_ ?_ ?_ ?_
 rotate_left
 ·intro w'
  go_simp
  with_reducible rfl
 rotate_left
 ·simp only [SX]
  rfl
 refine pu 3 6 ?_ (ms 15 11) rfl rfl HT_ (by kernel_rfl) (fun _ _ _ h => h) (by rfl) ?_ ?_ ?_ ?_
 rotate_left
 ·intro w'
  go_simp
  with_reducible rfl
 rotate_left
 ·simp only [SX]
  rfl
 refine pu 4 7 ?_ (ms 15 27) rfl rfl HT_ (by kernel_rfl) (fun _ _ _ h => h) (by rfl) ?_ ?_ ?_ ?_
 rotate_left
 ·intro w'
  go_simp
  with_reducible rfl
 rotate_left
 ·simp only [SX]
  rfl
 refine pu 9 12 ?_ (ms 15 539) rfl rfl HT_ (by kernel_rfl) (fun _ _ _ h => h) (by rfl) ?_ ?_ ?_ ?_
 rotate_left
 ·intro w'
  go_simp
  with_reducible rfl
 rotate_left
 ·simp only [SX]
  rfl
 refine tk 2 5 ?_ (ms 15 543) rfl rfl HT_ HW_ (by kernel_rfl) (fun _ _ _ h => h) (by rfl) ?_ hHeld ?_ ?_ ?_
 rotate_left
 ·rintro w' ⟨s0, s1, s2⟩
  go_simp
  with_reducible rfl
 rotate_left
 ·simp only [SX]
  rfl
 refine tk 5 8 ?_ (ms 15 575) rfl rfl HT_ HW_ (by kernel_rfl) (fun _ _ _ h => h) (by rfl) ?_ hHeld ?_ ?_ ?_
 rotate_left
 ·rintro w' ⟨s0, s1, s2⟩
  go_simp
  with_reducible rfl
 rotate_left
 ·simp only [SX]
  rfl
 refine tk 10 13 ?_ (ms 15 1599) rfl rfl HT_ HW_ (by kernel_rfl) (fun _ _ _ h => h) (by rfl) ?_ hHeld ?_ ?_ ?_
 rotate_left
 ·rintro w' ⟨s0, s1, s2⟩
  go_simp
  with_reducible rfl
 rotate_left
 ·simp only [SX]
  rfl
 refine one_ (i := 6) (N := some 9) (ms 15 1663) rfl rfl (one_of HT_.out (by kernel_rfl)) (by decide) (fun K hK => ?_)
 refine goes_ Try.func32 (by kernel_rfl) rfl #[.slice A0_1 l0_1.length c0_1] (by rfl) rfl rfl (by (try simp only [List.map_toArray, List.map_cons, List.map_nil]); rfl) ?_
 with_reducible refine (impl_Arc_32.calls _ _ l0_1 t331 _ ?side1 ?side2 A2.out).mono ?_
 (case side1 => repeat (exact (Kd.C_below HR0_1.out HB.out)))
 (case side2 => exact HC0_1.out)
 rintro e w9 ⟨v332, rfl, ho0, hb⟩
 refine ⟨_, rfl, ?_⟩
 have HO333 := ak (Kd.R_lower ho0 (below_size (bl2 HB GE329 GE330)))
 replace BK329 := ak (blk_below (bk BK329) hb)
 replace BK330 := ak (blk_below (bk BK330) hb)
 replace HB := ak (below_step (bl2 HB GE329 GE330) hb)
 (try clear hb)
 (try clear hb2)
 (try clear hk)
 (try clear hi)
 (try clear ho0)
 obtain ⟨Ao10, co10, eo10⟩ := Kd.R_slice HO333.out
 (subst eo10)
 refine hK.out _ _ ⟨(blk_cell BK329.out 0).trans rfl, (blk_cell BK329.out 1).trans rfl, (blk_cell BK329.out 2).trans rfl⟩ (fun hHeld => ?_)
 clear hK K
 refine norm_ (a' := ?_) ?_ ?_
 rotate_left
 ·show Act.put _ (some 9) _ = _
  simp only [SX]
  rfl
 refine one_ (i := 7) (N := some 10) (ms 15 1791) rfl rfl (one_of HT_.out (by kernel_rfl)) (by decide) (fun K hK => ?_)
 refine goes_ Try.func31 (by kernel_rfl) rfl #[.slice Ao10 t331.length co10] (by rfl) rfl rfl (by (try simp only [List.map_toArray, List.map_cons, List.map_nil]); rfl) ?_
 with_reducible refine (impl_Arc_31.calls (fun k_ => some k_ = (.slice Ao10 t331.length co10 : Value).ownBlock) (.slice Ao10 t331.length co10) t331 t334 w _ ?side1 ?side2 A3.out).mono ?_
 (case side1 => repeat ((with_reducible exact HB.out)))
 (case side2 => exact Kd.R_tight rfl HO333.out)
 rintro e w11 ⟨v335, rfl, ho0, hb, hkp⟩
 refine ⟨_, rfl, ?_⟩
 have n0_ := ak (blk_kept (bk BK329) hkp (fun hs_ => (fun e_ => (Kd.R_ne HO333.out BK329.out (by decide)) e_) hs_))
 have n1_ := ak (blk_kept (bk BK330) hkp (fun hs_ => (fun e_ => (Kd.R_ne HO333.out BK330.out (by decide)) e_) hs_))
 have n2_ := ak (Kd.R_mono (ok' := fun k_ => True) ho0 (fun k_ hk_ => trivial))
 have n3_ := ak (hb)
 clear BK329
 clear BK330
 clear HB
 clear HO333
 have BK329 := n0_
 have BK330 := n1_
 have HO336 := n2_
 have HB := n3_
 clear n0_ n1_ n2_ n3_
 (try clear hb)
 (try clear hkp)
 (try clear ho0)
 obtain ⟨Ao12, co12, eo12⟩ := Kd.R_slice HO336.out
 (subst eo12)
 refine hK.out _ _ ⟨(blk_cell BK329.out 0).trans rfl, (blk_cell BK329.out 1).trans rfl, (blk_cell BK329.out 2).trans rfl⟩ (fun hHeld => ?_)
 clear hK K
 refine norm_ (a' := ?_) ?_ ?_
 rotate_left
 ·show Act.put _ (some 10) _ = _
  simp only [SX]
  rfl
 refine pu 8 11 ?_ (ms 15 2047) rfl rfl HT_ (by kernel_rfl) (fun _ _ _ h => h) (by rfl) ?_ ?_ ?_ ?_
 rotate_left
 ·intro w'
  go_simp
  with_reducible rfl
 rotate_left
 ·simp only [SX]
  rfl
 refine one_ (i := 11) (N := some 14) (ms 15 4095) rfl rfl (one_of HT_.out (by kernel_rfl)) (by decide) (fun K hK => ?_)
 refine goes_ Try.func33 (by kernel_rfl) rfl #[.slice A0_2 l0_2.length c0_2] (by rfl) rfl rfl (by (try simp only [List.map_toArray, List.map_cons, List.map_nil]); rfl) ?_
 with_reducible refine (impl_News_33.calls _ _ l0_2 t337 _ ?side1 ?side2 A4.out).mono ?_
 (case side1 => repeat (exact (Kd.C_below HR0_2.out HB.out)))
 (case side2 => exact HC0_2.out)
 rintro e w13 ⟨v338, rfl, ho0, hb⟩
 refine ⟨_, rfl, ?_⟩
 replace HO336 := ak (Kd.R_below (rk HO336) hb)
 have HO339 := ak (Kd.R_lower ho0 (below_size (bl2 HB GE329 GE330)))
 replace BK329 := ak (blk_below (bk BK329) hb)
 replace BK330 := ak (blk_below (bk BK330) hb)
 replace HB := ak (below_step (bl2 HB GE329 GE330) hb)
 (try clear hb)
 (try clear hb2)
 (try clear hk)
 (try clear hi)
 (try clear ho0)
 obtain ⟨Ao14, co14, eo14⟩ := Kd.R_slice HO339.out
 (subst eo14)
 refine hK.out _ _ ⟨(blk_cell BK329.out 0).trans rfl, (blk_cell BK329.out 1).trans rfl, (blk_cell BK329.out 2).trans rfl⟩ (fun hHeld => ?_)
 clear hK K
 refine norm_ (a' := ?_) ?_ ?_
 rotate_left
 ·show Act.put _ (some 14) _ = _
  simp only [SX]
  rfl
 refine one_ (i := 12) (N := some 15) (ms 15 8191) rfl rfl (one_of HT_.out (by kernel_rfl)) (by decide) (fun K hK => ?_)
 refine goes_ Try.func19 (by kernel_rfl) rfl #[.slice Ao14 t337.length co14] (by rfl) rfl rfl (by (try simp only [List.map_toArray, List.map_cons, List.map_nil]); rfl) ?_
 with_reducible refine (impl_News_19.calls (fun k_ => some k_ = (.slice Ao14 t337.length co14 : Value).ownBlock) (.slice Ao14 t337.length co14) t337 t340 w _ ?side1 ?side2 A5.out).mono ?_
 (case side1 => repeat ((with_reducible exact HB.out)))
 (case side2 => exact Kd.R_tight rfl HO339.out)
 rintro e w15 ⟨v341, rfl, ho0, hb, hkp⟩
 refine ⟨_, rfl, ?_⟩
 have n0_ := ak (blk_kept (bk BK329) hkp (fun hs_ => (fun e_ => (Kd.R_ne HO339.out BK329.out (by decide)) e_) hs_))
 have n1_ := ak (blk_kept (bk BK330) hkp (fun hs_ => (fun e_ => (Kd.R_ne HO339.out BK330.out (by decide)) e_) hs_))
 have n2_ := ak (Kd.R_mono (ok' := fun k_ => True) (Kd.R_keptB ((Kd.R_apart' HO336.out (Kd.R_typed HO339.out) (by decide))) hkp (fun k_ hk_ hs_ => (hk_.2) hs_)) (fun k_ hk_ => trivial))
 have n3_ := ak (Kd.R_mono (ok' := fun k_ => True) ho0 (fun k_ hk_ => trivial))
 have n4_ := ak (hb)
 clear BK329
 clear BK330
 clear HO336
 clear HB
 clear HO339
 have BK329 := n0_
 have BK330 := n1_
 have HO336 := n2_
 have HO342 := n3_
 have HB := n4_
 clear n0_ n1_ n2_ n3_ n4_
 (try clear hb)
 (try clear hkp)
 (try clear ho0)
 obtain ⟨Ao16, co16, eo16⟩ := Kd.R_slice HO342.out
 (subst eo16)
 refine hK.out _ _ ⟨(blk_cell BK329.out 0).trans rfl, (blk_cell BK329.out 1).trans rfl, (blk_cell BK329.out 2).trans rfl⟩ (fun hHeld => ?_)
 clear hK K
 refine norm_ (a' := ?_) ?_ ?_
 rotate_left
 ·show Act.put _ (some 15) _ = _
  simp only [SX]
  rfl
 refine pu 13 16 ?_ (ms 15 16383) rfl rfl HT_ (by kernel_rfl) (fun _ _ _ h => h) (by rfl) ?_ ?_ ?_ ?_
 rotate_left
 ·intro w'
  go_simp
  with_reducible rfl
 rotate_left
 ·simp only [SX]
  rfl
 refine one_ (i := 14) (N := none) (ms 15 32767) rfl rfl (one_of HT_.out (by kernel_rfl)) (by decide) (fun K hK => ?_)
 have hs17 : w15.cell? ⟨gb330, 0, none⟩ = some (.int .i64 0) := (blk_cell BK330.out 0).trans rfl
 have hfs17 := blk_frozen BK330.out 0
 have hns17_0 := NB329_330.out
 have hms17_0 := NB330_329.out
 have hs18 : w15.cell? ⟨gb330, 1, none⟩ = some (.slice none 0 0) := (blk_cell BK330.out 1).trans rfl
 have hfs18 := blk_frozen BK330.out 1
 have hns18_0 := NB329_330.out
 have hms18_0 := NB330_329.out
 have hs19 : w15.cell? ⟨gb330, 2, none⟩ = some (.slice none 0 0) := (blk_cell BK330.out 2).trans rfl
 have hfs19 := blk_frozen BK330.out 2
 have hns19_0 := NB329_330.out
 have hms19_0 := NB330_329.out
 refine skip_ (w1 := ?_) (by rfl) rfl ?_ ?_
 rotate_left
 ·go_simp
  rfl
 refine hK.out _ _ ⟨((cell_far (p := ⟨gb330, _, none⟩) NB329_330.out _).trans (((cell_far (p := ⟨gb330, _, none⟩) NB329_330.out _).trans (((cell_far (p := ⟨gb330, _, none⟩) NB329_330.out _).trans (hHeld.1)))))), ((cell_far (p := ⟨gb330, _, none⟩) NB329_330.out _).trans (((cell_far (p := ⟨gb330, _, none⟩) NB329_330.out _).trans (((cell_far (p := ⟨gb330, _, none⟩) NB329_330.out _).trans (hHeld.2.1)))))), ((cell_far (p := ⟨gb330, _, none⟩) NB329_330.out _).trans (((cell_far (p := ⟨gb330, _, none⟩) NB329_330.out _).trans (((cell_far (p := ⟨gb330, _, none⟩) NB329_330.out _).trans (hHeld.2.2))))))⟩ (fun hHeld => ?_)
 clear hK K
 refine done_ (done_of HT_.out (by kernel_rfl)) ?_
 try go_wp2
 refine bodyPost_ret (results_cell_row rfl _ _ gb330 28 #[.int .i64 a0_0, .slice Ao12 t334.length co12, .slice Ao16 t340.length co16] (0, 0) _ rfl (by refine blk_put (cs := #[.int .i64 a0_0, .slice Ao12 t334.length co12, .slice none 0 0]) ?_ 2 _ rfl; refine blk_put (cs := #[.int .i64 a0_0, .slice none 0 0, .slice none 0 0]) ?_ 1 _ rfl; refine blk_put (cs := #[.int .i64 0, .slice none 0 0, .slice none 0 0]) ?_ 0 _ rfl; exact BK330.out) Try.underlying28 rfl (by kernel_rfl)) rfl ?_
 exact ⟨_, _, by rfl, by exact Kd.R_mono (Kd.R_far (p := ⟨gb330, 2, none⟩) (Kd.R_far (p := ⟨gb330, 1, none⟩) (Kd.R_far (p := ⟨gb330, 0, none⟩) (Kd.R_types HO336.out BK330.out (by decide)) (fun _ hk => hk.2) (.int .i64 a0_0)) (fun _ hk => hk.2) (.slice Ao12 t334.length co12)) (fun _ hk => hk.2) (.slice Ao16 t340.length co16)) (fun _ hk => trivial), by exact Kd.R_mono (Kd.R_far (p := ⟨gb330, 2, none⟩) (Kd.R_far (p := ⟨gb330, 1, none⟩) (Kd.R_far (p := ⟨gb330, 0, none⟩) (Kd.R_types HO342.out BK330.out (by decide)) (fun _ hk => hk.2) (.int .i64 a0_0)) (fun _ hk => hk.2) (.slice Ao12 t334.length co12)) (fun _ hk => hk.2) (.slice Ao16 t340.length co16)) (fun _ hk => trivial), bl2 HB GE329 GE330⟩

end Go.Proofs.Ytbcedkcjodokkaa.F
